/- Laws about the given program: the law FnSievesOfTableaux answers true for every input that its row lets in; no condition is added to the given statement. Contracts of the Go functions that it reaches, and the plain proof over lists. -/
import Derived.Test.YtkgngggppcmpfaaGreatWFnSievesOfTableaux0
import Derived.Test.YtkgngggppcmpfaaGreatKFnSievesOfTableaux0
import Derived.Test.YtkgngggppcmpfaaGreatKFnSievesOfTableaux1
import Derived.Test.YtkgngggppcmpfaaGreatKFnSievesOfTableaux2
import Derived.Test.YtkgngggppcmpfaaGreatKFnSievesOfTableaux3
import Derived.Test.YtkgngggppcmpfaaGreatKFnSievesOfTableaux4
import Derived.Test.YtkgngggppcmpfaaGreatKFnSievesOfTableaux5
import Derived.Test.YtkgngggppcmpfaaGreatKFnSievesOfTableaux6
import Derived.Test.YtkgngggppcmpfaaGreatKFnSievesOfTableaux7
section
namespace Go.Proofs.YtkgngggppcmpfaaGreat.L
open Go.RowKit Go.Proofs.YtkgngggppcmpfaaGreatW.PrintWords Go.Proofs.YtkgngggppcmpfaaGreatW.PrintLast Go.Proofs.YtkgngggppcmpfaaGreatW.PrintMore Go.Proofs.YtkgngggppcmpfaaGreat.X
attribute [local go_sem] Qy Q0 Qbb Qbc Qp Qq Qz Q1
set_option linter.unusedVariables false
set_option linter.unusedSimpArgs false
mutual
def Qx.l0:Nat→List Int→Int→List Int→List Int→Int→Option (List Int × Bool)
 |0,_,_,_,_,_=>none
 |k+1,x0,x4,x5,x6,x7=>if x7≤x4 then (if x7=0 then (none) else (if (Int.tmod x4 x7)>0 then (Qx.l0 k x0 x4 x5 x6 (wrap64 (x7+1))) else (if x4=0 then (none) else (if 0≤(Int.tmod x7 x4) then (if (Int.tmod x7 x4)<(x0.length:Int) then (Qx.l1 k x0 x4 x5 x6 x7 (rd x0 (Int.tmod x7 x4)) x5 (x5.length:Int) 0) else (none)) else (none))))) else (some (x6,true))
def Qx.l1:Nat→List Int→Int→List Int→List Int→Int→Int→List Int→Int→Int→Option (List Int × Bool)
 |0,_,_,_,_,_,_,_,_,_=>none
 |k+1,x0,x4,x5,x6,x7,x8,x31,x32,x33=>if x33<x32 then (if 0≤x33 then (if x33<(x31.length:Int) then (if (rd x31 x33)=0 then (none) else (if (Int.tmod x7 (rd x31 x33))=0 then (if x33<(x6.length:Int) then (Qx.l1 k x0 x4 x5 x6 x7 (wrap64 (x8 - (rd x6 x33))) x31 x32 (wrap64 (x33+1))) else (none)) else (Qx.l1 k x0 x4 x5 x6 x7 x8 x31 x32 (wrap64 (x33+1))))) else (none)) else (none)) else (if x8<0 then (some (([] :List Int),false)) else (if x5.length<17592186044416 then (if x6.length<17592186044416 then (Qx.l0 k x0 x4 (x5++ [x7]) (x6++ [x8]) (wrap64 (x7+1))) else (none)) else (none)))
end
def Qx.f (k:Nat) (l0:List Int):Option (List Int × Bool):=(Qdd.f k l0).bind fun t736=>(if t736=true then (Qx.l0 k l0 (l0.length:Int) ([] :List Int) ([] :List Int) 1) else (some (([] :List Int),false)))
theorem Qx.mono_l: ∀ k,(∀ y0 y1 y2 y3 y4,LeO (Qx.l0 k y0 y1 y2 y3 y4) (Qx.l0 (k+1) y0 y1 y2 y3 y4))∧(∀ y0 y1 y2 y3 y4 y5 y6 y7 y8,LeO (Qx.l1 k y0 y1 y2 y3 y4 y5 y6 y7 y8) (Qx.l1 (k+1) y0 y1 y2 y3 y4 y5 y6 y7 y8))
 |0=>⟨fun _ _ _ _ _ r h=>by simp [Qx.l0] at h,fun _ _ _ _ _ _ _ _ _ r h=>by simp [Qx.l1] at h⟩
 |k+1=>by
  obtain ⟨ih0,ih1⟩:=Qx.mono_l k;refine ⟨?_,?_⟩
  all_goals
   intros
   first|unfold Qx.l0|unfold Qx.l1
   repeat' (with_reducible first|apply ih0|apply ih1|apply Qdd.mono|exact LeO.refl _|exact LeO.none _|refine LeO.ite ?_ ?_|refine LeO.bind ?_ (fun _=> ?_))
theorem Qx.mono: ∀ a0 k,LeO (Qx.f k a0) (Qx.f (k+1) a0):=by
 intro a0 k;obtain ⟨ih0,ih1⟩:=Qx.mono_l k;unfold Qx.f
 repeat' (with_reducible first|apply ih0|apply ih1|apply Qdd.mono|exact LeO.refl _|exact LeO.none _|refine LeO.ite ?_ ?_|refine LeO.bind ?_ (fun _=> ?_))
set_option maxHeartbeats 8000000 in
set_option maxRecDepth 100000 in
theorem Qx.calls (k:Nat) (A0:Option Addr) (c0:Nat) (l0:List Int) (r1:List Int) (r2:Bool) (w:World) (hr0:Kd.C (Kd.int .i64) w A0 l0.length l0) (hc0:l0.length≤c0) (h:Qx.f k l0=some (r1,r2)):
 Calls Tryz.prog 142 #[.slice A0 l0.length c0] w fun e w'=> ∃ v0_:Value,e= .returned (.tuple #[v0_, .bool r2])∧Kd.R (Kd.int .i64) 3 w' w.heap.size (fun _=>True) v0_ r1∧Below w.heap.size w w':=by
 have HR0:=Zk hr0;have HC0:=Zk hc0;clear hr0 hc0;have HB:=Zk (Below.refl w.heap.size w);have H:((Qdd.f k l0).bind fun t736=>(if t736=true then (Qx.l0 k l0 (l0.length:Int) ([] :List Int) ([] :List Int) 1) else (some (([] :List Int),false))))=some (r1,r2):=h;clear h;obtain ⟨t736,A2,H⟩:=bs H;(try dsimp only at H)
 by_cases c3:t736=true
 ·
  subst c3;rw [if_pos rfl] at H;have H':=Zk H;clear H;go_enter Tryz.func142,Tryz.ntmps142;go_wp2_with (first|(refine gA (some 12) Tryz.func226 #[.slice A0 l0.length c0] ?_;(with_reducible refine (Qdd.calls k _ _ l0 true _ (uC HR0) HC0.out A2.out).mono ?_);rintro e w' ⟨rfl,⟨nd,rfl⟩⟩;refine ⟨_,rfl,?_⟩))
  go_loopg [5,6,7] k (fun kq v5 v6 v7 w'=> ∃ (x5_1:List Int) (x6_1:List Int) (x7_1:Int),v7= .int .i64 x7_1∧Z0 (Qx.l0 kq l0 (l0.length:Int) x5_1 x6_1 x7_1=some (r1,r2))∧Z0 (kq≤k)∧Z0 (Kd.R (Kd.int .i64) 3 w' w.heap.size (fun k_=>some k_≠(v6:Value).ownBlock) v5 x5_1)∧Z0 (Kd.R (Kd.int .i64) 3 w' w.heap.size (fun k_=>some k_≠(v5:Value).ownBlock) v6 x6_1)∧Z0 (Below w.heap.size w w'))
  case atStart=>exact ⟨(([] :List Int)),(([] :List Int)),(1),(by first|rfl|(simp;done)|(simp [*];done)),H',⟨Nat.le_refl _⟩,⟨by first|exact Kd.R_nil _ _ _ _ _|exact Kd.N_nil _ _ _ _ _|exact Kd.V_nil _ _ _ _ _|exact Kd.Q_nil _ _ _ _ _|exact Kd.S_nil _ _ _ _ _⟩,⟨by first|exact Kd.R_nil _ _ _ _ _|exact Kd.N_nil _ _ _ _ _|exact Kd.V_nil _ _ _ _ _|exact Kd.Q_nil _ _ _ _ _|exact Kd.S_nil _ _ _ _ _⟩,⟨uB HB⟩⟩
  case round=>
   clear H'
   skip
   obtain ⟨x5_1,x6_1,x7_1,rfl,HA,HK1,HO_5,HO_6,HB⟩:=hrel;cases gk with
   |zero=>exact absurd HA.out (by simp [Qx.l0])
   |succ k1=>
    have H:=HA.out;clear HA;simp only [Qx.l0] at H
    by_cases c4:x7_1≤(l0.length:Int)
    ·
     rw [if_pos c4] at H;have c4b0:=decide_eq_true c4;clear c4
     by_cases c5:x7_1=0
     ·
      rw [if_pos c5] at H;exact absurd H (by simp)
     ·
      rw [if_neg c5] at H;have c5b0:(x7_1==0)=false:=beq_eq_false_iff_ne.mpr c5;have c5b1:(x7_1 !=0)=true:=bne_iff_ne.mpr c5
      by_cases c6:(Int.tmod (l0.length:Int) x7_1)>0
      ·
       rw [if_pos c6] at H;have c6b0:=decide_eq_true c6;have c6b0e:decide (0<((l0.length:Int) % x7_1))=true:=by rw [←Int.tmod_eq_emod_of_nonneg (Int.natCast_nonneg _)];exact c6b0
       clear c6;have H':=Zk H;clear H;go_wp2;go_roundg k1
       case measure=>have:=HK1.out;omega
       case rel=>exact ⟨(x5_1),(x6_1),(wrap64 (x7_1+1)),(by first|rfl|(simp;done)|(simp [*];done)),H',⟨by have:=HK1.out;omega⟩,⟨uR HO_5⟩,⟨uR HO_6⟩,⟨uB HB⟩⟩
      ·
       rw [if_neg c6] at H;have c6b0:=decide_eq_false c6;have c6b0e:decide (0<((l0.length:Int) % x7_1))=false:=by rw [←Int.tmod_eq_emod_of_nonneg (Int.natCast_nonneg _)];exact c6b0
       clear c6
       by_cases c7:(l0.length:Int)=0
       ·
        rw [if_pos c7] at H;exact absurd H (by simp)
       ·
        rw [if_neg c7] at H;have c7b0:((l0.length:Int)==0)=false:=beq_eq_false_iff_ne.mpr c7;have c7b1:((l0.length:Int) !=0)=true:=bne_iff_ne.mpr c7;have c7b2: ¬ (l0= []):=fun h_=>c7 (by rw [h_];rfl)
        obtain ⟨ji8,hji8⟩: ∃ j_:Int,(Int.tmod x7_1 (l0.length:Int))=j_:=⟨_,rfl⟩
        replace H:(if 0≤(ji8) then (if (ji8)<(l0.length:Int) then (Qx.l1 k1 l0 (l0.length:Int) x5_1 x6_1 x7_1 (rd l0 (ji8)) x5_1 (x5_1.length:Int) 0) else (none)) else (none))=some (r1,r2):=by first|(rw [hji8] at H;exact H)|(simp only [hji8] at H ⊢;exact H)
        by_cases c9:0≤(ji8)
        ·
         rw [if_pos c9] at H;have c9b0:=decide_eq_true c9;clear c9
         by_cases c10:(ji8)<(l0.length:Int)
         ·
          rw [if_pos c10] at H;have c10b0:=decide_eq_true c10;clear c10;have H':=Zk H;clear H;have p737:0≤((ji8):Int):=of_decide_eq_true (by first|(with_reducible assumption)|assumption);have q737:(ji8)<(l0.length:Int):=of_decide_eq_true (by first|(with_reducible assumption)|assumption);obtain ⟨ad737,e737,hx737_0⟩:=Kd.at_int HR0.out (ji8) p737 q737;cases e737;replace hx737_0:=(HB.out.cell (World.block_lt_of_cell? w _ hx737_0)).trans hx737_0;replace p737:=eq_true p737;replace q737:=eq_true q737;obtain ⟨Ao11,co11,eo11⟩:=Kd.R_slice HO_5.out;subst eo11;go_wp2
          go_loopg [8,33] k1 (fun kq v8 v33 w'=> ∃ (x8_2:Int) (x33_2:Int),v8= .int .i64 x8_2∧v33= .int .i64 x33_2∧Z0 (Qx.l1 kq l0 (l0.length:Int) x5_1 x6_1 x7_1 x8_2 x5_1 (x5_1.length:Int) x33_2=some (r1,r2))∧Z0 (kq≤k1)∧Z0 (Kd.R (Kd.int .i64) 3 w' w.heap.size (fun k_=>some k_≠(u6:Value).ownBlock) (.slice Ao11 x5_1.length co11) x5_1)∧Z0 (Kd.R (Kd.int .i64) 3 w' w.heap.size (fun k_=>some k_≠((.slice Ao11 x5_1.length co11):Value).ownBlock∧some k_≠((.slice Ao11 x5_1.length co11):Value).ownBlock) u6 x6_1)∧Z0 (Kd.R (Kd.int .i64) 3 w' w.heap.size (fun k_=>some k_≠(u6:Value).ownBlock) (.slice Ao11 x5_1.length co11) x5_1)∧Z0 (Below w.heap.size w w'))
          case atStart=>exact ⟨(rd l0 (ji8)),(0),(by first|rfl|(simp;done)|(simp only [←hji8] <;>(first|rfl|simp))|(simp [*];done)),(by first|rfl|(simp;done)|(simp [*];done)),H',⟨Nat.le_refl _⟩,⟨uR HO_5⟩,⟨Kd.R_mono (uR HO_6) (fun _ hk=>⟨hk,hk⟩)⟩,⟨uR HO_5⟩,⟨uB HB⟩⟩
          case round=>
           clear H'
           try clear c4b0 c5 c5b0 c5b1 c6b0 c7 c7b0 c7b1 c7b2 c9b0 c10b0 hx737_0 p737 q737
           obtain ⟨x8_2,x33_2,rfl,rfl,HA,HK2,HO_5,HO_6,HO_31,HB⟩:=hrel;cases gk with
           |zero=>exact absurd HA.out (by simp [Qx.l1])
           |succ k2=>
            have H:=HA.out;clear HA;simp only [Qx.l1] at H
            by_cases c12:x33_2<(x5_1.length:Int)
            ·
             rw [if_pos c12] at H;have c12b0:=decide_eq_true c12;clear c12
             by_cases c13:0≤x33_2
             ·
              rw [if_pos c13] at H;have c13b0:=decide_eq_true c13;clear c13
              by_cases c14:x33_2<(x5_1.length:Int)
              ·
               rw [if_pos c14] at H;have c14b0:=decide_eq_true c14;clear c14
               by_cases c15:(rd x5_1 x33_2)=0
               ·
                rw [if_pos c15] at H;exact absurd H (by simp)
               ·
                rw [if_neg c15] at H;have c15b0:((rd x5_1 x33_2)==0)=false:=beq_eq_false_iff_ne.mpr c15;have c15b1:((rd x5_1 x33_2) !=0)=true:=bne_iff_ne.mpr c15
                by_cases c16:(Int.tmod x7_1 (rd x5_1 x33_2))=0
                ·
                 rw [if_pos c16] at H;have c16b0:((Int.tmod x7_1 (rd x5_1 x33_2))==0)=true:=beq_iff_eq.mpr c16;have c16b1:((Int.tmod x7_1 (rd x5_1 x33_2)) !=0)=false:=bne_eq_false_iff_eq.mpr c16;clear c16
                 by_cases c17:x33_2<(x6_1.length:Int)
                 ·
                  rw [if_pos c17] at H;have c17b0:=decide_eq_true c17;clear c17;have H':=Zk H;clear H;have p738:0≤(x33_2:Int):=of_decide_eq_true (by first|(with_reducible assumption)|assumption);have q738:x33_2<(x5_1.length:Int):=of_decide_eq_true (by first|(with_reducible assumption)|assumption);obtain ⟨ad738,e738,hx738_0⟩:=Kd.at_int (Kd.R_reads' HO_31.out).2.2 x33_2 p738 q738;cases e738;replace p738:=eq_true p738;replace q738:=eq_true q738;obtain ⟨Ao18,co18,eo18⟩:=Kd.R_slice HO_6.out;subst eo18;have p739:0≤(x33_2:Int):=of_decide_eq_true (by first|(with_reducible assumption)|assumption);have q739:x33_2<(x6_1.length:Int):=of_decide_eq_true (by first|(with_reducible assumption)|assumption);obtain ⟨ad739,e739,hx739_0⟩:=Kd.at_int (Kd.R_reads' HO_6.out).2.2 x33_2 p739 q739;cases e739;replace p739:=eq_true p739;replace q739:=eq_true q739;go_wp2;go_roundg k2
                  case measure=>have:=HK1.out;have:=HK2.out;omega
                  case rel=>exact ⟨(wrap64 (x8_2 - (rd x6_1 x33_2))),(wrap64 (x33_2+1)),(by first|rfl|(simp;done)|(simp [*];done)),(by first|rfl|(simp;done)|(simp [*];done)),H',⟨by have:=HK1.out;have:=HK2.out;omega⟩,⟨uR HO_5⟩,⟨uR HO_6⟩,⟨uR HO_31⟩,⟨uB HB⟩⟩
                 ·
                  rw [if_neg c17] at H;exact absurd H (by simp)
                ·
                 rw [if_neg c16] at H;have c16b0:((Int.tmod x7_1 (rd x5_1 x33_2))==0)=false:=beq_eq_false_iff_ne.mpr c16;have c16b1:((Int.tmod x7_1 (rd x5_1 x33_2)) !=0)=true:=bne_iff_ne.mpr c16;have H':=Zk H;clear H;have p738:0≤(x33_2:Int):=of_decide_eq_true (by first|(with_reducible assumption)|assumption);have q738:x33_2<(x5_1.length:Int):=of_decide_eq_true (by first|(with_reducible assumption)|assumption);obtain ⟨ad738,e738,hx738_0⟩:=Kd.at_int (Kd.R_reads' HO_31.out).2.2 x33_2 p738 q738;cases e738;replace p738:=eq_true p738;replace q738:=eq_true q738;go_wp2;go_roundg k2
                 case measure=>have:=HK1.out;have:=HK2.out;omega
                 case rel=>exact ⟨(x8_2),(wrap64 (x33_2+1)),(by first|rfl|(simp;done)|(simp [*];done)),(by first|rfl|(simp;done)|(simp [*];done)),H',⟨by have:=HK1.out;have:=HK2.out;omega⟩,⟨uR HO_5⟩,⟨uR HO_6⟩,⟨uR HO_31⟩,⟨uB HB⟩⟩
              ·
               rw [if_neg c14] at H;exact absurd H (by simp)
             ·
              rw [if_neg c13] at H;exact absurd H (by simp)
            ·
             rw [if_neg c12] at H;have c12b0:=decide_eq_false c12;clear c12
             by_cases c19:x8_2<0
             ·
              rw [if_pos c19] at H;have c19b0:=decide_eq_true c19;clear c19;simp only [Option.some.injEq,Prod.mk.injEq] at H;obtain ⟨rfl,rfl⟩:=H;go_wp2
              go_ret2
              exact ⟨_,by first|rfl|(simp [Qe,Qf] <;>rfl)|(simp only [←hji8];first|rfl|(simp [Qe,Qf] <;>rfl))|(simp [*,Qe,Qf] <;>rfl),by first|exact Kd.R_nil _ _ _ _ _|exact Kd.N_nil _ _ _ _ _|exact Kd.V_nil _ _ _ _ _|exact Kd.Q_nil _ _ _ _ _|exact Kd.S_nil _ _ _ _ _,uB HB⟩
             ·
              rw [if_neg c19] at H;have c19b0:=decide_eq_false c19;clear c19
              by_cases c20:x5_1.length<17592186044416
              ·
               rw [if_pos c20] at H;have LMc20:=Zk c20;clear c20;obtain ⟨y740,hy740⟩: ∃ y_:List Int,y_=(x5_1++ [x7_1]):=⟨_,rfl⟩
               replace H:(if x6_1.length<17592186044416 then (Qx.l0 k2 l0 (l0.length:Int) y740 (x6_1++ [x8_2]) (wrap64 (x7_1+1))) else (none))=some (r1,r2):=by first|(rw [hy740];with_reducible exact H)|(have H2_:=(Option.bind_some _ _).symm.trans H;rw [hy740];with_reducible exact H2_)|(have H2_:=(Option.bind_some _ _).symm.trans H;with_reducible exact H2_)|with_reducible exact H|(rw [hy740];exact H)|exact H
               have Ny740:=Zk hy740;clear hy740
               by_cases c21:x6_1.length<17592186044416
               ·
                rw [if_pos c21] at H;have LMc21:=Zk c21;clear c21;obtain ⟨y743,hy743⟩: ∃ y_:List Int,y_=(x6_1++ [x8_2]):=⟨_,rfl⟩
                replace H:(Qx.l0 k2 l0 (l0.length:Int) y740 y743 (wrap64 (x7_1+1)))=some (r1,r2):=by first|(rw [hy743];with_reducible exact H)|(have H2_:=(Option.bind_some _ _).symm.trans H;rw [hy743];with_reducible exact H2_)|(have H2_:=(Option.bind_some _ _).symm.trans H;with_reducible exact H2_)|with_reducible exact H|(rw [hy743];exact H)|exact H
                have Ny743:=Zk hy743;clear hy743;have H':=Zk H;clear H;go_wp2_with (first|((with_reducible refine Qb1 (b:= .append) (xs:= #[.tmp 51, .tmp 53]) rfl ?_);at_builtin;refine Kd.R_append (Kd.int .i64) (w0:=w) w.heap.size rfl (.tmp 51) (.tmp 53) 24 3 (.int .i64 0) 8 rfl Tryz.underlying24 Qdq rfl (by decide) (by omega) (.slice Ao11 x5_1.length co11) x5_1 x7_1 [.int .i64 x7_1] (fun k_=>some k_≠(u6:Value).ownBlock) (fun _=>False) rfl rfl ?aP (fun _ hk=>hk.elim) ?aF ?aO ?aB ?aS ?aL ?_;(case aP=>exact rfl);(case aB=>exact (uB HB));(case aF=>exact (fun k_ hk=>Kd.fresh' (Kd.R_lt (uR HO_6)) k_ hk));(case aO=>exact (uR HO_5));(case aS=>exact (Qh (uB HB)));(case aL=>have:=LMc20.out;omega);intro v741 w22 ho hb hg hat;rw [←Ny740.out] at ho;replace HO_6:=Zk (Kd.R_after (ok:=(fun _=>True)) (Kd.R_mono (uR HO_6) (fun _ hk=>⟨trivial,hk.1⟩)) hg hat);replace HB:=Zk (hb);have HO742:=Zk (ho);clear HO_5;clear ho hb hg hat)|((with_reducible refine Qb1 (b:= .append) (xs:= #[.tmp 55, .tmp 57]) rfl ?_);at_builtin;refine Kd.R_append (Kd.int .i64) (w0:=w) w.heap.size rfl (.tmp 55) (.tmp 57) 24 3 (.int .i64 0) 8 rfl Tryz.underlying24 Qdq rfl (by decide) (by omega) u6 x6_1 x8_2 [.int .i64 x8_2] (fun k_=>some k_≠(v741:Value).ownBlock) (fun _=>False) rfl rfl ?aP (fun _ hk=>hk.elim) ?aF ?aO ?aB ?aS ?aL ?_;(case aP=>exact rfl);(case aB=>exact (uB HB));(case aF=>exact (fun k_ hk=>Kd.fresh' (Kd.R_lt (uR HO742)) k_ hk));(case aO=>exact (Kd.R_mono (uR HO_6) (fun _ hk=>hk.2)));(case aS=>exact (Qh (uB HB)));(case aL=>have:=LMc21.out;omega);intro v744 w23 ho hb hg hat;rw [←Ny743.out] at ho;replace HO742:=Zk (Kd.R_after (ok:=(fun _=>True)) (Kd.R_mono (uR HO742) (fun _ hk=>⟨trivial,hk⟩)) hg hat);replace HB:=Zk (hb);have HO745:=Zk (ho);clear HO_6;clear ho hb hg hat));go_roundg k2
                case measure=>have:=HK1.out;have:=HK2.out;omega
                case rel=>exact ⟨(y740),(y743),(wrap64 (x7_1+1)),(by first|rfl|(simp;done)|(simp [*];done)),H',⟨by have:=HK1.out;have:=HK2.out;omega⟩,⟨Kd.R_mono (uR HO742) (fun _ hk=>hk.2)⟩,⟨uR HO745⟩,⟨uB HB⟩⟩
               ·
                rw [if_neg c21] at H;exact absurd H (by simp)
              ·
               rw [if_neg c20] at H;exact absurd H (by simp)
         ·
          rw [if_neg c10] at H;exact absurd H (by simp)
        ·
         rw [if_neg c9] at H;exact absurd H (by simp)
    ·
     rw [if_neg c4] at H;have c4b0:=decide_eq_false c4;clear c4;simp only [Option.some.injEq,Prod.mk.injEq] at H;obtain ⟨rfl,rfl⟩:=H;go_wp2
     go_ret2
     exact ⟨_,by first|rfl|(simp [Qe,Qf] <;>rfl)|(simp [*,Qe,Qf] <;>rfl),Kd.R_mono (uR HO_6) (fun _ hk=>trivial),uB HB⟩
 ·
  replace c3:=Bool.eq_false_iff.mpr c3;subst c3;rw [if_neg (show ¬ (false=true) by decide)] at H;simp only [Option.some.injEq,Prod.mk.injEq] at H;obtain ⟨rfl,rfl⟩:=H;go_enter Tryz.func142,Tryz.ntmps142;go_wp2_with (first|(refine gA (some 12) Tryz.func226 #[.slice A0 l0.length c0] ?_;(with_reducible refine (Qdd.calls k _ _ l0 false _ (uC HR0) HC0.out A2.out).mono ?_);rintro e w' ⟨rfl,⟨nd,rfl⟩⟩;refine ⟨_,rfl,?_⟩))
  go_ret2
  exact ⟨_,by first|rfl|(simp [Qe,Qf] <;>rfl)|(simp [*,Qe,Qf] <;>rfl),by first|exact Kd.R_nil _ _ _ _ _|exact Kd.N_nil _ _ _ _ _|exact Kd.V_nil _ _ _ _ _|exact Kd.Q_nil _ _ _ _ _|exact Kd.S_nil _ _ _ _ _,uB HB⟩
def Qcq.l0:Nat→Int→List Int→Int→Int→Option (Bool)
 |0,_,_,_,_=>none
 |k+1,x1,x8,x9,x10=>if x10<x9 then (if 0≤x10 then (if x10<(x8.length:Int) then ((Qc0.f x1 x10).bind fun t748=>(if t748=true then (if (Go.bits .andNot .i64 (rd x8 x10) x1)=0 then (Qcq.l0 k x1 x8 x9 (wrap64 (x10+1))) else (some false)) else (Qcq.l0 k x1 x8 x9 (wrap64 (x10+1))))) else (none)) else (none)) else (some true)
def Qcq.f (k:Nat) (l0_0:List Int) (a1:Int):Option (Bool):=Qcq.l0 k a1 l0_0 (l0_0.length:Int) 0
theorem Qcq.mono_l: ∀ k,(∀ y0 y1 y2 y3,LeO (Qcq.l0 k y0 y1 y2 y3) (Qcq.l0 (k+1) y0 y1 y2 y3))
 |0=>fun _ _ _ _ r h=>by simp [Qcq.l0] at h
 |k+1=>by
  have ih0:=Qcq.mono_l k
  ·
   intro y0 y1 y2 y3;unfold Qcq.l0
   repeat' first
   |(with_reducible exact ih0 _ _ _ _)
   |(with_reducible exact LeO.refl _)
   |(with_reducible exact LeO.none _)
   |(with_reducible refine LeO.ite ?_ ?_)
   |(with_reducible refine LeO.bind ?_ (fun _=> ?_))
   |exact ih0 _ _ _ _
   |exact LeO.none _
   |refine LeO.ite ?_ ?_
   |refine LeO.bind ?_ (fun _=> ?_)
theorem Qcq.mono: ∀ a0 a1 k,LeO (Qcq.f k a0 a1) (Qcq.f (k+1) a0 a1):=by
 intro a0 a1 k;have ih0:=Qcq.mono_l k;unfold Qcq.f
 repeat' (with_reducible first|apply ih0|exact LeO.refl _|exact LeO.none _|refine LeO.ite ?_ ?_|refine LeO.bind ?_ (fun _=> ?_))
set_option maxHeartbeats 8000000 in
set_option maxRecDepth 100000 in
theorem Qcq.calls (k:Nat) (A0_0:Option Addr) (c0_0:Nat) (l0_0:List Int) (a1:Int) (r:Bool) (w:World) (hr0_0:Kd.C (Kd.int .i64) w A0_0 l0_0.length l0_0) (hc0_0:l0_0.length≤c0_0) (h:Qcq.f k l0_0 a1=some r):
 Calls Tryz.prog 278 #[.agg #[.slice A0_0 l0_0.length c0_0], .int .i64 a1] w fun e w'=>e= .returned (.bool r)∧Below w.heap.size w w':=by
 have hu26:=Tryz.underlying26;have HR0_0:=Zk hr0_0;have HC0_0:=Zk hc0_0;clear hr0_0 hc0_0;have HB:=Zk (Below.refl w.heap.size w);have H:(Qcq.l0 k a1 l0_0 (l0_0.length:Int) 0)=some r:=h;clear h;have H':=Zk H;clear H;go_enter Tryz.func278,Tryz.ntmps278;go_wp2_with (first|(refine bE (N:=2) (cs:= #[.slice A0_0 l0_0.length c0_0]) (t:=26) ?_;intro gb746 hg w3 hbox hb;have BK746:=Zk (hbox);have GW746:=Zk ((by rw [hg];exact (Qh (uB HB)):w.heap.size≤gb746));have GE746:=GW746;replace HB:=Zk (Qb (uB HB) hb);clear hb hbox hg;have hcz4_0:=bC BK746;have hfz4_0:=Q6 BK746.out 0))
 go_loopg [10] k (fun kq v10 w'=> ∃ (x10_1:Int),v10= .int .i64 x10_1∧Z0 (Qcq.l0 kq a1 l0_0 (l0_0.length:Int) x10_1=some r)∧Z0 (kq≤k)∧Z0 (w'.heap[gb746]? =some (.cells #[(.slice A0_0 l0_0.length c0_0)] 26 (0,0)))∧Z0 (Below w.heap.size w w'))
 case atStart=>exact ⟨(0),(by first|rfl|(simp;done)|(simp [*];done)),H',⟨Nat.le_refl _⟩,⟨uK BK746⟩,⟨(vB HB)⟩⟩
 case round=>
  clear H'
  try clear hcz4_0 hfz4_0
  obtain ⟨x10_1,rfl,HA,HK1,BK746,HB⟩:=hrel;cases gk with
  |zero=>exact absurd HA.out (by simp [Qcq.l0])
  |succ k1=>
   have H:=HA.out;clear HA;simp only [Qcq.l0] at H
   by_cases c5:x10_1<(l0_0.length:Int)
   ·
    rw [if_pos c5] at H;have c5b0:=decide_eq_true c5;clear c5
    by_cases c6:0≤x10_1
    ·
     rw [if_pos c6] at H;have c6b0:=decide_eq_true c6;clear c6
     by_cases c7:x10_1<(l0_0.length:Int)
     ·
      rw [if_pos c7] at H;have c7b0:=decide_eq_true c7;clear c7;obtain ⟨t748,A8,H⟩:=bs H;(try dsimp only at H)
      by_cases c9:t748=true
      ·
       subst c9;rw [if_pos rfl] at H
       by_cases c10:(Go.bits .andNot .i64 (rd l0_0 x10_1) a1)=0
       ·
        rw [if_pos c10] at H;have c10b0:((Go.bits .andNot .i64 (rd l0_0 x10_1) a1)==0)=true:=beq_iff_eq.mpr c10;have c10b1:((Go.bits .andNot .i64 (rd l0_0 x10_1) a1) !=0)=false:=bne_eq_false_iff_eq.mpr c10;clear c10;have H':=Zk H;clear H;have p747:0≤(x10_1:Int):=of_decide_eq_true (by first|(with_reducible assumption)|assumption);have q747:x10_1<(l0_0.length:Int):=of_decide_eq_true (by first|(with_reducible assumption)|assumption);obtain ⟨ad747,e747,hx747_0⟩:=Kd.at_int HR0_0.out x10_1 p747 q747;cases e747;replace hx747_0:=(HB.out.cell (World.block_lt_of_cell? w _ hx747_0)).trans hx747_0;replace p747:=eq_true p747;replace q747:=eq_true q747;go_wp2_with (first|(refine gA (some 17) Tryz.func253 #[.int .i64 a1, .int .i64 x10_1] ?_;(with_reducible refine (Qc0.calls a1 x10_1 true _ A8.out).mono ?_);rintro e w' ⟨rfl,⟨nd,rfl⟩⟩;refine ⟨_,rfl,?_⟩));go_roundg k1
        case measure=>have:=HK1.out;omega
        case rel=>exact ⟨(wrap64 (x10_1+1)),(by first|rfl|(simp;done)|(simp [*];done)),H',⟨by have:=HK1.out;omega⟩,⟨uK BK746⟩,⟨(vB HB)⟩⟩
       ·
        rw [if_neg c10] at H;have c10b0:((Go.bits .andNot .i64 (rd l0_0 x10_1) a1)==0)=false:=beq_eq_false_iff_ne.mpr c10;have c10b1:((Go.bits .andNot .i64 (rd l0_0 x10_1) a1) !=0)=true:=bne_iff_ne.mpr c10;obtain rfl:=Option.some.inj H;have p747:0≤(x10_1:Int):=of_decide_eq_true (by first|(with_reducible assumption)|assumption);have q747:x10_1<(l0_0.length:Int):=of_decide_eq_true (by first|(with_reducible assumption)|assumption);obtain ⟨ad747,e747,hx747_0⟩:=Kd.at_int HR0_0.out x10_1 p747 q747;cases e747;replace hx747_0:=(HB.out.cell (World.block_lt_of_cell? w _ hx747_0)).trans hx747_0;replace p747:=eq_true p747;replace q747:=eq_true q747;go_wp2_with (first|(refine gA (some 17) Tryz.func253 #[.int .i64 a1, .int .i64 x10_1] ?_;(with_reducible refine (Qc0.calls a1 x10_1 true _ A8.out).mono ?_);rintro e w' ⟨rfl,⟨nd,rfl⟩⟩;refine ⟨_,rfl,?_⟩))
        go_ret
        exact ⟨by first|rfl|(simp [Qe,Qf] <;>rfl)|(simp [*,Qe,Qf] <;>rfl),(vB HB)⟩
      ·
       replace c9:=Bool.eq_false_iff.mpr c9;subst c9;rw [if_neg (show ¬ (false=true) by decide)] at H;have H':=Zk H;clear H;have p747:0≤(x10_1:Int):=of_decide_eq_true (by first|(with_reducible assumption)|assumption);have q747:x10_1<(l0_0.length:Int):=of_decide_eq_true (by first|(with_reducible assumption)|assumption);obtain ⟨ad747,e747,hx747_0⟩:=Kd.at_int HR0_0.out x10_1 p747 q747;cases e747;replace hx747_0:=(HB.out.cell (World.block_lt_of_cell? w _ hx747_0)).trans hx747_0;replace p747:=eq_true p747;replace q747:=eq_true q747;go_wp2_with (first|(refine gA (some 17) Tryz.func253 #[.int .i64 a1, .int .i64 x10_1] ?_;(with_reducible refine (Qc0.calls a1 x10_1 false _ A8.out).mono ?_);rintro e w' ⟨rfl,⟨nd,rfl⟩⟩;refine ⟨_,rfl,?_⟩));go_roundg k1
       case measure=>have:=HK1.out;omega
       case rel=>exact ⟨(wrap64 (x10_1+1)),(by first|rfl|(simp;done)|(simp [*];done)),H',⟨by have:=HK1.out;omega⟩,⟨uK BK746⟩,⟨(vB HB)⟩⟩
     ·
      rw [if_neg c7] at H;exact absurd H (by simp)
    ·
     rw [if_neg c6] at H;exact absurd H (by simp)
   ·
    rw [if_neg c5] at H;have c5b0:=decide_eq_false c5;clear c5;obtain rfl:=Option.some.inj H;go_wp2
    go_ret
    exact ⟨by first|rfl|(simp [Qe,Qf] <;>rfl)|(simp [*,Qe,Qf] <;>rfl),(vB HB)⟩
def Qcd.l0:Nat→List Int→Int→List Int→Option (List Int)
 |0,_,_,_=>none
 |k+1,x3,x4,x750000=>if x4<(shl .i64 1 (x750000.length:Int)) then ((Qcq.f k x750000 x4).bind fun t750=>(if t750=true then (if x3.length<17592186044416 then (Qcd.l0 k (x3++ [x4]) (wrap64 (x4+1)) x750000) else (none)) else (Qcd.l0 k x3 (wrap64 (x4+1)) x750000))) else (some x3)
def Qcd.f (k:Nat) (l0_0:List Int):Option (List Int):=Qcd.l0 k ([] :List Int) 0 l0_0
theorem Qcd.mono_l: ∀ k,(∀ y0 y1 y2,LeO (Qcd.l0 k y0 y1 y2) (Qcd.l0 (k+1) y0 y1 y2))
 |0=>fun _ _ _ r h=>by simp [Qcd.l0] at h
 |k+1=>by
  have ih0:=Qcd.mono_l k
  ·
   intro y0 y1 y2;unfold Qcd.l0
   repeat' first
   |(with_reducible exact ih0 _ _ _)
   |(with_reducible exact Qcq.mono _ _ _)
   |(with_reducible exact LeO.refl _)
   |(with_reducible exact LeO.none _)
   |(with_reducible refine LeO.ite ?_ ?_)
   |(with_reducible refine LeO.bind ?_ (fun _=> ?_))
   |exact ih0 _ _ _
   |exact Qcq.mono _ _ _
   |exact LeO.none _
   |refine LeO.ite ?_ ?_
   |refine LeO.bind ?_ (fun _=> ?_)
theorem Qcd.mono: ∀ a0 k,LeO (Qcd.f k a0) (Qcd.f (k+1) a0):=by
 intro a0 k;have ih0:=Qcd.mono_l k;unfold Qcd.f
 repeat' (with_reducible first|apply ih0|apply Qcq.mono|exact LeO.refl _|exact LeO.none _|refine LeO.ite ?_ ?_|refine LeO.bind ?_ (fun _=> ?_))
set_option maxHeartbeats 8000000 in
set_option maxRecDepth 100000 in
theorem Qcd.calls (k:Nat) (A0_0:Option Addr) (c0_0:Nat) (l0_0:List Int) (r:List Int) (w:World) (hr0_0:Kd.C (Kd.int .i64) w A0_0 l0_0.length l0_0) (hc0_0:l0_0.length≤c0_0) (h:Qcd.f k l0_0=some r):
 Calls Tryz.prog 171 #[.agg #[.slice A0_0 l0_0.length c0_0]] w fun e w'=> ∃ v0_:Value,e= .returned (v0_)∧Kd.R (Kd.int .i64) 3 w' w.heap.size (fun _=>True) v0_ r∧Below w.heap.size w w':=by
 have hu26:=Tryz.underlying26;have HR0_0:=Zk hr0_0;have HC0_0:=Zk hc0_0;clear hr0_0 hc0_0;have HB:=Zk (Below.refl w.heap.size w);have H:(Qcd.l0 k ([] :List Int) 0 l0_0)=some r:=h;clear h;have H':=Zk H;clear H;go_enter Tryz.func171,Tryz.ntmps171;go_wp2_with (first|(refine bE (N:=1) (cs:= #[.slice A0_0 l0_0.length c0_0]) (t:=26) ?_;intro gb749 hg w2 hbox hb;have BK749:=Zk (hbox);have GW749:=Zk ((by rw [hg];exact (Qh (uB HB)):w.heap.size≤gb749));have GE749:=GW749;replace HB:=Zk (Qb (uB HB) hb);clear hb hbox hg))
 go_loopg [3,4] k (fun kq v3 v4 w'=> ∃ (x3_1:List Int) (x4_1:Int),v4= .int .i64 x4_1∧Z0 (Qcd.l0 kq x3_1 x4_1 l0_0=some r)∧Z0 (kq≤k)∧Z0 (Kd.R (Kd.int .i64) 3 w' w.heap.size (fun _=>True) v3 x3_1)∧Z0 (w'.heap[gb749]? =some (.cells #[(.slice A0_0 l0_0.length c0_0)] 26 (0,0)))∧Z0 (Below w.heap.size w w'))
 case atStart=>exact ⟨(([] :List Int)),(0),(by first|rfl|(simp;done)|(simp [*];done)),H',⟨Nat.le_refl _⟩,⟨by first|exact Kd.R_nil _ _ _ _ _|exact Kd.N_nil _ _ _ _ _|exact Kd.V_nil _ _ _ _ _|exact Kd.Q_nil _ _ _ _ _|exact Kd.S_nil _ _ _ _ _⟩,⟨uK BK749⟩,⟨(vB HB)⟩⟩
 case round=>
  clear H'
  skip
  obtain ⟨x3_1,x4_1,rfl,HA,HK1,HO_3,BK749,HB⟩:=hrel;cases gk with
  |zero=>exact absurd HA.out (by simp [Qcd.l0])
  |succ k1=>
   have H:=HA.out;clear HA;simp only [Qcd.l0] at H;obtain ⟨ji3,hji3⟩: ∃ j_:Int,(shl .i64 1 (l0_0.length:Int))=j_:=⟨_,rfl⟩
   replace H:(if x4_1<(ji3) then ((Qcq.f k1 l0_0 x4_1).bind fun t750=>(if t750=true then (if x3_1.length<17592186044416 then (Qcd.l0 k1 (x3_1++ [x4_1]) (wrap64 (x4_1+1)) l0_0) else (none)) else (Qcd.l0 k1 x3_1 (wrap64 (x4_1+1)) l0_0))) else (some x3_1))=some r:=by first|(rw [hji3] at H;exact H)|(simp only [hji3] at H ⊢;exact H)
   have hji3_:(IntKind.i64.wrap (1*2 ^ min (l0_0.length:Int).toNat 64))=ji3:=hji3;have hji3z:(l0_0.length:Int)≤64→(IntKind.i64.wrap (1*2 ^ (l0_0.length:Int).toNat))=ji3:=Qea hji3;have hji3p:(IntKind.i64.wrap (1*2 ^ min l0_0.length 64))=ji3:=hji3_;have hji3q:(l0_0.length:Int)≤64→(IntKind.i64.wrap (1*2 ^ l0_0.length))=ji3:=hji3z;have hji3r:(IntKind.i64.wrap (2 ^ min l0_0.length 64))=ji3:=by have h_:=hji3p;rw [Int.one_mul] at h_;exact h_
   have hji3s:(l0_0.length:Int)≤64→(IntKind.i64.wrap (2 ^ l0_0.length))=ji3:=fun hle_=>by have h_:=hji3q hle_;rw [Int.one_mul] at h_;exact h_
   have hji3u:(IntKind.i64.wrap (2 ^ min (l0_0.length:Int).toNat 64))=ji3:=by have h_:=hji3_;rw [Int.one_mul] at h_;exact h_
   have hji3v:(l0_0.length:Int)≤64→(IntKind.i64.wrap (2 ^ (l0_0.length:Int).toNat))=ji3:=fun hle_=>by have h_:=hji3z hle_;rw [Int.one_mul] at h_;exact h_
   have hji3y:(wrap64 (1*2 ^ min (l0_0.length:Int).toNat 64))=ji3:=(Qcm _).symm.trans hji3_;have hji3x:(l0_0.length:Int)≤64→(wrap64 (1*2 ^ (l0_0.length:Int).toNat))=ji3:=fun h_=>(Qcm _).symm.trans (hji3z h_)
   by_cases c4:x4_1<(ji3)
   ·
    rw [if_pos c4] at H;have c4b0:=decide_eq_true c4;clear c4;obtain ⟨t750,A5,H⟩:=bs H;(try dsimp only at H)
    by_cases c6:t750=true
    ·
     subst c6;rw [if_pos rfl] at H
     by_cases c7:x3_1.length<17592186044416
     ·
      rw [if_pos c7] at H;have LMc7:=Zk c7;clear c7;obtain ⟨y751,hy751⟩: ∃ y_:List Int,y_=(x3_1++ [x4_1]):=⟨_,rfl⟩
      replace H:(Qcd.l0 k1 y751 (wrap64 (x4_1+1)) l0_0)=some r:=by first|(rw [hy751];with_reducible exact H)|(have H2_:=(Option.bind_some _ _).symm.trans H;rw [hy751];with_reducible exact H2_)|(have H2_:=(Option.bind_some _ _).symm.trans H;with_reducible exact H2_)|with_reducible exact H|(rw [hy751];exact H)|exact H
      have Ny751:=Zk hy751;clear hy751;have H':=Zk H;clear H;have hcz8_0:=bC BK749;have hfz8_0:=Q6 BK749.out 0;go_wp2_with (first|(refine gA (some 15) Tryz.func278 #[.agg #[.slice A0_0 l0_0.length c0_0], .int .i64 x4_1] ?_;(with_reducible refine (Qcq.calls k1 _ _ l0_0 x4_1 true _ (uD HR0_0 HB) HC0_0.out A5.out).mono ?_);rintro e w9 ⟨rfl,hb⟩;refine ⟨_,rfl,?_⟩;replace HO_3:=Zk (Kd.R_below (uR HO_3) hb);replace BK749:=Zk (Qbg (uK BK749) hb);replace HB:=Zk (Qb (vB HB) hb);(try clear hb))|((with_reducible refine Qb1 (b:= .append) (xs:= #[.tmp 16, .tmp 18]) rfl ?_);at_builtin;refine Kd.R_append (Kd.int .i64) (w0:=w) w.heap.size rfl (.tmp 16) (.tmp 18) 24 3 (.int .i64 0) 8 rfl Tryz.underlying24 Qdq rfl (by decide) (by omega) u3 x3_1 x4_1 [.int .i64 x4_1] (fun _=>True) (fun _=>False) rfl rfl ?aP (fun _ hk=>hk.elim) ?aF ?aO ?aB ?aS ?aL ?_;(case aP=>exact rfl);(case aB=>exact (vB HB));(case aF=>exact (fun _ _=>trivial));(case aO=>exact (uR HO_3));(case aS=>exact (Qh (vB HB)));(case aL=>have:=LMc7.out;omega);intro v752 w10 ho hb hg hat;rw [←Ny751.out] at ho;replace BK749:=Zk (Qc8 (uK BK749) hg (Kd.R_ne HO_3.out BK749.out (by decide)));replace HB:=Zk (hb);have HO753:=Zk (ho);clear HO_3;clear ho hb hg hat));go_roundg k1
      case measure=>have:=HK1.out;omega
      case rel=>exact ⟨(y751),(wrap64 (x4_1+1)),(by first|rfl|(simp;done)|(simp [*];done)),H',⟨by have:=HK1.out;omega⟩,⟨uR HO753⟩,⟨uK BK749⟩,⟨(vB HB)⟩⟩
     ·
      rw [if_neg c7] at H;exact absurd H (by simp)
    ·
     replace c6:=Bool.eq_false_iff.mpr c6;subst c6;rw [if_neg (show ¬ (false=true) by decide)] at H;have H':=Zk H;clear H;have hcz11_0:=bC BK749;have hfz11_0:=Q6 BK749.out 0;go_wp2_with (first|(refine gA (some 15) Tryz.func278 #[.agg #[.slice A0_0 l0_0.length c0_0], .int .i64 x4_1] ?_;(with_reducible refine (Qcq.calls k1 _ _ l0_0 x4_1 false _ (uD HR0_0 HB) HC0_0.out A5.out).mono ?_);rintro e w12 ⟨rfl,hb⟩;refine ⟨_,rfl,?_⟩;replace HO_3:=Zk (Kd.R_below (uR HO_3) hb);replace BK749:=Zk (Qbg (uK BK749) hb);replace HB:=Zk (Qb (vB HB) hb);(try clear hb)));go_roundg k1
     case measure=>have:=HK1.out;omega
     case rel=>exact ⟨(x3_1),(wrap64 (x4_1+1)),(by first|rfl|(simp;done)|(simp [*];done)),H',⟨by have:=HK1.out;omega⟩,⟨uR HO_3⟩,⟨uK BK749⟩,⟨(vB HB)⟩⟩
   ·
    rw [if_neg c4] at H;have c4b0:=decide_eq_false c4;clear c4;obtain rfl:=Option.some.inj H;have hcz13_0:=bC BK749;have hfz13_0:=Q6 BK749.out 0;go_wp2
    go_ret
    exact ⟨_,by first|rfl|(simp [Qe,Qf] <;>rfl)|(simp only [←hji3];first|rfl|(simp [Qe,Qf] <;>rfl))|(simp [*,Qe,Qf] <;>rfl),uR HO_3,(vB HB)⟩
def Qc2.l0:Nat→Int→Int→List Int→Int→Int→Option (Int)
 |0,_,_,_,_,_=>none
 |k+1,x1,x5,x10,x11,x12=>if x12<x11 then (if 0≤x12 then (if x12<(x10.length:Int) then ((Qc0.f x1 x12).bind fun t756=>(if t756=true then (Qc2.l0 k x1 (Go.bits .or .i64 x5 (rd x10 x12)) x10 x11 (wrap64 (x12+1))) else (Qc2.l0 k x1 x5 x10 x11 (wrap64 (x12+1))))) else (none)) else (none)) else (some x5)
def Qc2.f (k:Nat) (l0_0:List Int) (a1:Int):Option (Int):=Qc2.l0 k a1 a1 l0_0 (l0_0.length:Int) 0
theorem Qc2.mono_l: ∀ k,(∀ y0 y1 y2 y3 y4,LeO (Qc2.l0 k y0 y1 y2 y3 y4) (Qc2.l0 (k+1) y0 y1 y2 y3 y4))
 |0=>fun _ _ _ _ _ r h=>by simp [Qc2.l0] at h
 |k+1=>by
  have ih0:=Qc2.mono_l k
  ·
   intro y0 y1 y2 y3 y4;unfold Qc2.l0
   repeat' first
   |(with_reducible exact ih0 _ _ _ _ _)
   |(with_reducible exact LeO.refl _)
   |(with_reducible exact LeO.none _)
   |(with_reducible refine LeO.ite ?_ ?_)
   |(with_reducible refine LeO.bind ?_ (fun _=> ?_))
   |exact ih0 _ _ _ _ _
   |exact LeO.none _
   |refine LeO.ite ?_ ?_
   |refine LeO.bind ?_ (fun _=> ?_)
theorem Qc2.mono: ∀ a0 a1 k,LeO (Qc2.f k a0 a1) (Qc2.f (k+1) a0 a1):=by
 intro a0 a1 k;have ih0:=Qc2.mono_l k;unfold Qc2.f
 repeat' (with_reducible first|apply ih0|exact LeO.refl _|exact LeO.none _|refine LeO.ite ?_ ?_|refine LeO.bind ?_ (fun _=> ?_))
set_option maxHeartbeats 8000000 in
set_option maxRecDepth 100000 in
theorem Qc2.calls (k:Nat) (A0_0:Option Addr) (c0_0:Nat) (l0_0:List Int) (a1:Int) (r:Int) (w:World) (hr0_0:Kd.C (Kd.int .i64) w A0_0 l0_0.length l0_0) (hc0_0:l0_0.length≤c0_0) (h:Qc2.f k l0_0 a1=some r):
 Calls Tryz.prog 298 #[.agg #[.slice A0_0 l0_0.length c0_0], .int .i64 a1] w fun e w'=>e= .returned (.int .i64 r)∧Below w.heap.size w w':=by
 have hu26:=Tryz.underlying26;have HR0_0:=Zk hr0_0;have HC0_0:=Zk hc0_0;clear hr0_0 hc0_0;have HB:=Zk (Below.refl w.heap.size w);have H:(Qc2.l0 k a1 a1 l0_0 (l0_0.length:Int) 0)=some r:=h;clear h;have H':=Zk H;clear H;go_enter Tryz.func298,Tryz.ntmps298;go_wp2_with (first|(refine bE (N:=2) (cs:= #[.slice A0_0 l0_0.length c0_0]) (t:=26) ?_;intro gb754 hg w3 hbox hb;have BK754:=Zk (hbox);have GW754:=Zk ((by rw [hg];exact (Qh (uB HB)):w.heap.size≤gb754));have GE754:=GW754;replace HB:=Zk (Qb (uB HB) hb);clear hb hbox hg;have hcz4_0:=bC BK754;have hfz4_0:=Q6 BK754.out 0))
 go_loopg [5,12] k (fun kq v5 v12 w'=> ∃ (x5_1:Int) (x12_1:Int),v5= .int .i64 x5_1∧v12= .int .i64 x12_1∧Z0 (Qc2.l0 kq a1 x5_1 l0_0 (l0_0.length:Int) x12_1=some r)∧Z0 (kq≤k)∧Z0 (w'.heap[gb754]? =some (.cells #[(.slice A0_0 l0_0.length c0_0)] 26 (0,0)))∧Z0 (Below w.heap.size w w'))
 case atStart=>exact ⟨(a1),(0),(by first|rfl|(simp;done)|(simp [*];done)),(by first|rfl|(simp;done)|(simp [*];done)),H',⟨Nat.le_refl _⟩,⟨uK BK754⟩,⟨(vB HB)⟩⟩
 case round=>
  clear H'
  try clear hcz4_0 hfz4_0
  obtain ⟨x5_1,x12_1,rfl,rfl,HA,HK1,BK754,HB⟩:=hrel;cases gk with
  |zero=>exact absurd HA.out (by simp [Qc2.l0])
  |succ k1=>
   have H:=HA.out;clear HA;simp only [Qc2.l0] at H
   by_cases c5:x12_1<(l0_0.length:Int)
   ·
    rw [if_pos c5] at H;have c5b0:=decide_eq_true c5;clear c5
    by_cases c6:0≤x12_1
    ·
     rw [if_pos c6] at H;have c6b0:=decide_eq_true c6;clear c6
     by_cases c7:x12_1<(l0_0.length:Int)
     ·
      rw [if_pos c7] at H;have c7b0:=decide_eq_true c7;clear c7;obtain ⟨t756,A8,H⟩:=bs H;(try dsimp only at H)
      by_cases c9:t756=true
      ·
       subst c9;rw [if_pos rfl] at H;have H':=Zk H;clear H;have p755:0≤(x12_1:Int):=of_decide_eq_true (by first|(with_reducible assumption)|assumption);have q755:x12_1<(l0_0.length:Int):=of_decide_eq_true (by first|(with_reducible assumption)|assumption);obtain ⟨ad755,e755,hx755_0⟩:=Kd.at_int HR0_0.out x12_1 p755 q755;cases e755;replace hx755_0:=(HB.out.cell (World.block_lt_of_cell? w _ hx755_0)).trans hx755_0;replace p755:=eq_true p755;replace q755:=eq_true q755;go_wp2_with (first|(refine gA (some 19) Tryz.func253 #[.int .i64 a1, .int .i64 x12_1] ?_;(with_reducible refine (Qc0.calls a1 x12_1 true _ A8.out).mono ?_);rintro e w' ⟨rfl,⟨nd,rfl⟩⟩;refine ⟨_,rfl,?_⟩));go_roundg k1
       case measure=>have:=HK1.out;omega
       case rel=>exact ⟨(Go.bits .or .i64 x5_1 (rd l0_0 x12_1)),(wrap64 (x12_1+1)),(by first|rfl|(simp;done)|(simp [*];done)),(by first|rfl|(simp;done)|(simp [*];done)),H',⟨by have:=HK1.out;omega⟩,⟨uK BK754⟩,⟨(vB HB)⟩⟩
      ·
       replace c9:=Bool.eq_false_iff.mpr c9;subst c9;rw [if_neg (show ¬ (false=true) by decide)] at H;have H':=Zk H;clear H;have p755:0≤(x12_1:Int):=of_decide_eq_true (by first|(with_reducible assumption)|assumption);have q755:x12_1<(l0_0.length:Int):=of_decide_eq_true (by first|(with_reducible assumption)|assumption);obtain ⟨ad755,e755,hx755_0⟩:=Kd.at_int HR0_0.out x12_1 p755 q755;cases e755;replace hx755_0:=(HB.out.cell (World.block_lt_of_cell? w _ hx755_0)).trans hx755_0;replace p755:=eq_true p755;replace q755:=eq_true q755;go_wp2_with (first|(refine gA (some 19) Tryz.func253 #[.int .i64 a1, .int .i64 x12_1] ?_;(with_reducible refine (Qc0.calls a1 x12_1 false _ A8.out).mono ?_);rintro e w' ⟨rfl,⟨nd,rfl⟩⟩;refine ⟨_,rfl,?_⟩));go_roundg k1
       case measure=>have:=HK1.out;omega
       case rel=>exact ⟨(x5_1),(wrap64 (x12_1+1)),(by first|rfl|(simp;done)|(simp [*];done)),(by first|rfl|(simp;done)|(simp [*];done)),H',⟨by have:=HK1.out;omega⟩,⟨uK BK754⟩,⟨(vB HB)⟩⟩
     ·
      rw [if_neg c7] at H;exact absurd H (by simp)
    ·
     rw [if_neg c6] at H;exact absurd H (by simp)
   ·
    rw [if_neg c5] at H;have c5b0:=decide_eq_false c5;clear c5;obtain rfl:=Option.some.inj H;go_wp2
    go_ret
    exact ⟨by first|rfl|(simp [Qe,Qf] <;>rfl)|(simp [*,Qe,Qf] <;>rfl),(vB HB)⟩
def Qcf.l0:Nat→Int→Int→List Int→Int→Int→Option (Int)
 |0,_,_,_,_,_=>none
 |k+1,x1,x5,x9,x10,x11=>if x11<x10 then (if 0≤x11 then (if x11<(x9.length:Int) then ((Qc0.f x1 x11).bind fun t759=>(if t759=true then (if (Go.bits .and .i64 (rd x9 x11) x1)=0 then (Qcf.l0 k x1 (Go.bits .or .i64 x5 (shl .i64 1 x11)) x9 x10 (wrap64 (x11+1))) else (Qcf.l0 k x1 x5 x9 x10 (wrap64 (x11+1)))) else (Qcf.l0 k x1 x5 x9 x10 (wrap64 (x11+1))))) else (none)) else (none)) else (some x5)
def Qcf.f (k:Nat) (l0_0:List Int) (a1:Int):Option (Int):=Qcf.l0 k a1 0 l0_0 (l0_0.length:Int) 0
theorem Qcf.mono_l: ∀ k,(∀ y0 y1 y2 y3 y4,LeO (Qcf.l0 k y0 y1 y2 y3 y4) (Qcf.l0 (k+1) y0 y1 y2 y3 y4))
 |0=>fun _ _ _ _ _ r h=>by simp [Qcf.l0] at h
 |k+1=>by
  have ih0:=Qcf.mono_l k
  ·
   intro y0 y1 y2 y3 y4;unfold Qcf.l0
   repeat' first
   |(with_reducible exact ih0 _ _ _ _ _)
   |(with_reducible exact LeO.refl _)
   |(with_reducible exact LeO.none _)
   |(with_reducible refine LeO.ite ?_ ?_)
   |(with_reducible refine LeO.bind ?_ (fun _=> ?_))
   |exact ih0 _ _ _ _ _
   |exact LeO.none _
   |refine LeO.ite ?_ ?_
   |refine LeO.bind ?_ (fun _=> ?_)
theorem Qcf.mono: ∀ a0 a1 k,LeO (Qcf.f k a0 a1) (Qcf.f (k+1) a0 a1):=by
 intro a0 a1 k;have ih0:=Qcf.mono_l k;unfold Qcf.f
 repeat' (with_reducible first|apply ih0|exact LeO.refl _|exact LeO.none _|refine LeO.ite ?_ ?_|refine LeO.bind ?_ (fun _=> ?_))
set_option maxHeartbeats 8000000 in
set_option maxRecDepth 100000 in
theorem Qcf.calls (k:Nat) (A0_0:Option Addr) (c0_0:Nat) (l0_0:List Int) (a1:Int) (r:Int) (w:World) (hr0_0:Kd.C (Kd.int .i64) w A0_0 l0_0.length l0_0) (hc0_0:l0_0.length≤c0_0) (h:Qcf.f k l0_0 a1=some r):
 Calls Tryz.prog 301 #[.agg #[.slice A0_0 l0_0.length c0_0], .int .i64 a1] w fun e w'=>e= .returned (.int .i64 r)∧Below w.heap.size w w':=by
 have hu26:=Tryz.underlying26;have HR0_0:=Zk hr0_0;have HC0_0:=Zk hc0_0;clear hr0_0 hc0_0;have HB:=Zk (Below.refl w.heap.size w);have H:(Qcf.l0 k a1 0 l0_0 (l0_0.length:Int) 0)=some r:=h;clear h;have H':=Zk H;clear H;go_enter Tryz.func301,Tryz.ntmps301;go_wp2_with (first|(refine bE (N:=2) (cs:= #[.slice A0_0 l0_0.length c0_0]) (t:=26) ?_;intro gb757 hg w3 hbox hb;have BK757:=Zk (hbox);have GW757:=Zk ((by rw [hg];exact (Qh (uB HB)):w.heap.size≤gb757));have GE757:=GW757;replace HB:=Zk (Qb (uB HB) hb);clear hb hbox hg;have hcz4_0:=bC BK757;have hfz4_0:=Q6 BK757.out 0))
 go_loopg [5,11] k (fun kq v5 v11 w'=> ∃ (x5_1:Int) (x11_1:Int),v5= .int .i64 x5_1∧v11= .int .i64 x11_1∧Z0 (Qcf.l0 kq a1 x5_1 l0_0 (l0_0.length:Int) x11_1=some r)∧Z0 (kq≤k)∧Z0 (w'.heap[gb757]? =some (.cells #[(.slice A0_0 l0_0.length c0_0)] 26 (0,0)))∧Z0 (Below w.heap.size w w'))
 case atStart=>exact ⟨(0),(0),(by first|rfl|(simp;done)|(simp [*];done)),(by first|rfl|(simp;done)|(simp [*];done)),H',⟨Nat.le_refl _⟩,⟨uK BK757⟩,⟨(vB HB)⟩⟩
 case round=>
  clear H'
  try clear hcz4_0 hfz4_0
  obtain ⟨x5_1,x11_1,rfl,rfl,HA,HK1,BK757,HB⟩:=hrel;cases gk with
  |zero=>exact absurd HA.out (by simp [Qcf.l0])
  |succ k1=>
   have H:=HA.out;clear HA;simp only [Qcf.l0] at H
   by_cases c5:x11_1<(l0_0.length:Int)
   ·
    rw [if_pos c5] at H;have c5b0:=decide_eq_true c5;clear c5
    by_cases c6:0≤x11_1
    ·
     rw [if_pos c6] at H;have c6b0:=decide_eq_true c6;clear c6
     by_cases c7:x11_1<(l0_0.length:Int)
     ·
      rw [if_pos c7] at H;have c7b0:=decide_eq_true c7;clear c7;obtain ⟨t759,A8,H⟩:=bs H;(try dsimp only at H)
      by_cases c9:t759=true
      ·
       subst c9;rw [if_pos rfl] at H
       by_cases c10:(Go.bits .and .i64 (rd l0_0 x11_1) a1)=0
       ·
        rw [if_pos c10] at H;have c10b0:((Go.bits .and .i64 (rd l0_0 x11_1) a1)==0)=true:=beq_iff_eq.mpr c10;have c10b1:((Go.bits .and .i64 (rd l0_0 x11_1) a1) !=0)=false:=bne_eq_false_iff_eq.mpr c10;clear c10;have c11b0:=eq_true (of_decide_eq_true (by first|(with_reducible assumption)|assumption):0≤x11_1);obtain ⟨ji12,hji12⟩: ∃ j_:Int,(shl .i64 1 x11_1)=j_:=⟨_,rfl⟩
        replace H:(Qcf.l0 k1 a1 (Go.bits .or .i64 x5_1 (ji12)) l0_0 (l0_0.length:Int) (wrap64 (x11_1+1)))=some r:=by first|(rw [hji12] at H;exact H)|(simp only [hji12] at H ⊢;exact H)
        (try rw [hji12] at A8)
        have hji12_:(IntKind.i64.wrap (1*2 ^ min x11_1.toNat 64))=ji12:=hji12;have hji12z:x11_1≤64→(IntKind.i64.wrap (1*2 ^ x11_1.toNat))=ji12:=Qea hji12;have hji12u:(IntKind.i64.wrap (2 ^ min x11_1.toNat 64))=ji12:=by have h_:=hji12_;rw [Int.one_mul] at h_;exact h_
        have hji12v:x11_1≤64→(IntKind.i64.wrap (2 ^ x11_1.toNat))=ji12:=fun hle_=>by have h_:=hji12z hle_;rw [Int.one_mul] at h_;exact h_
        have hji12y:(wrap64 (1*2 ^ min x11_1.toNat 64))=ji12:=(Qcm _).symm.trans hji12_;have hji12x:x11_1≤64→(wrap64 (1*2 ^ x11_1.toNat))=ji12:=fun h_=>(Qcm _).symm.trans (hji12z h_)
        have H':=Zk H;clear H;have p758:0≤(x11_1:Int):=of_decide_eq_true (by first|(with_reducible assumption)|assumption);have q758:x11_1<(l0_0.length:Int):=of_decide_eq_true (by first|(with_reducible assumption)|assumption);obtain ⟨ad758,e758,hx758_0⟩:=Kd.at_int HR0_0.out x11_1 p758 q758;cases e758;replace hx758_0:=(HB.out.cell (World.block_lt_of_cell? w _ hx758_0)).trans hx758_0;replace p758:=eq_true p758;replace q758:=eq_true q758;go_wp2_with (first|(refine gA (some 18) Tryz.func253 #[.int .i64 a1, .int .i64 x11_1] ?_;(with_reducible refine (Qc0.calls a1 x11_1 true _ A8.out).mono ?_);rintro e w' ⟨rfl,⟨nd,rfl⟩⟩;refine ⟨_,rfl,?_⟩));go_roundg k1
        case measure=>have:=HK1.out;omega
        case rel=>exact ⟨(Go.bits .or .i64 x5_1 (ji12)),(wrap64 (x11_1+1)),(by first|rfl|(simp;done)|(simp only [←hji12] <;>(first|rfl|simp))|(simp [*];done)),(by first|rfl|(simp;done)|(simp [*];done)),H',⟨by have:=HK1.out;omega⟩,⟨uK BK757⟩,⟨(vB HB)⟩⟩
       ·
        rw [if_neg c10] at H;have c10b0:((Go.bits .and .i64 (rd l0_0 x11_1) a1)==0)=false:=beq_eq_false_iff_ne.mpr c10;have c10b1:((Go.bits .and .i64 (rd l0_0 x11_1) a1) !=0)=true:=bne_iff_ne.mpr c10;have H':=Zk H;clear H;have p758:0≤(x11_1:Int):=of_decide_eq_true (by first|(with_reducible assumption)|assumption);have q758:x11_1<(l0_0.length:Int):=of_decide_eq_true (by first|(with_reducible assumption)|assumption);obtain ⟨ad758,e758,hx758_0⟩:=Kd.at_int HR0_0.out x11_1 p758 q758;cases e758;replace hx758_0:=(HB.out.cell (World.block_lt_of_cell? w _ hx758_0)).trans hx758_0;replace p758:=eq_true p758;replace q758:=eq_true q758;go_wp2_with (first|(refine gA (some 18) Tryz.func253 #[.int .i64 a1, .int .i64 x11_1] ?_;(with_reducible refine (Qc0.calls a1 x11_1 true _ A8.out).mono ?_);rintro e w' ⟨rfl,⟨nd,rfl⟩⟩;refine ⟨_,rfl,?_⟩));go_roundg k1
        case measure=>have:=HK1.out;omega
        case rel=>exact ⟨(x5_1),(wrap64 (x11_1+1)),(by first|rfl|(simp;done)|(simp [*];done)),(by first|rfl|(simp;done)|(simp [*];done)),H',⟨by have:=HK1.out;omega⟩,⟨uK BK757⟩,⟨(vB HB)⟩⟩
      ·
       replace c9:=Bool.eq_false_iff.mpr c9;subst c9;rw [if_neg (show ¬ (false=true) by decide)] at H;have H':=Zk H;clear H;have p758:0≤(x11_1:Int):=of_decide_eq_true (by first|(with_reducible assumption)|assumption);have q758:x11_1<(l0_0.length:Int):=of_decide_eq_true (by first|(with_reducible assumption)|assumption);obtain ⟨ad758,e758,hx758_0⟩:=Kd.at_int HR0_0.out x11_1 p758 q758;cases e758;replace hx758_0:=(HB.out.cell (World.block_lt_of_cell? w _ hx758_0)).trans hx758_0;replace p758:=eq_true p758;replace q758:=eq_true q758;go_wp2_with (first|(refine gA (some 18) Tryz.func253 #[.int .i64 a1, .int .i64 x11_1] ?_;(with_reducible refine (Qc0.calls a1 x11_1 false _ A8.out).mono ?_);rintro e w' ⟨rfl,⟨nd,rfl⟩⟩;refine ⟨_,rfl,?_⟩));go_roundg k1
       case measure=>have:=HK1.out;omega
       case rel=>exact ⟨(x5_1),(wrap64 (x11_1+1)),(by first|rfl|(simp;done)|(simp [*];done)),(by first|rfl|(simp;done)|(simp [*];done)),H',⟨by have:=HK1.out;omega⟩,⟨uK BK757⟩,⟨(vB HB)⟩⟩
     ·
      rw [if_neg c7] at H;exact absurd H (by simp)
    ·
     rw [if_neg c6] at H;exact absurd H (by simp)
   ·
    rw [if_neg c5] at H;have c5b0:=decide_eq_false c5;clear c5;obtain rfl:=Option.some.inj H;go_wp2
    go_ret
    exact ⟨by first|rfl|(simp [Qe,Qf] <;>rfl)|(simp [*,Qe,Qf] <;>rfl),(vB HB)⟩
def Qdg.f (k:Nat) (l0_0:List Int) (a1:Int):Option (Int):=(Qcf.f k l0_0 (wrap64 ((wrap64 ((shl .i64 1 (l0_0.length:Int)) - 1)) - a1))).bind fun t761=>((Qc2.f k l0_0 t761).bind fun t762=>(some t762))
theorem Qdg.mono: ∀ a0 a1 k,LeO (Qdg.f k a0 a1) (Qdg.f (k+1) a0 a1):=by
 intro a0 a1 k;unfold Qdg.f
 repeat' (with_reducible first|apply Qcf.mono|apply Qc2.mono|exact LeO.refl _|exact LeO.none _|refine LeO.ite ?_ ?_|refine LeO.bind ?_ (fun _=> ?_))
def Qdg.T1:Bool × List (List Nat × List Nat):=(true,[([],[]),([],[]),([],[]),([2],[2]),([3],[3]),([4],[4]),([5],[5]),([],[]),([6,7],[6,7]),([1,8],[1,8]),([0,9,9],[0,9]),([10,10,0,1,2,3,4,5,6,7,8,9,10],[10])])
def Qdg.B1:List Nat:= [0,0,0,4,12,28,60,0,252,510,1023,2047]
theorem Qdg.tab1:rtab .any (Qfz Tryz.f211 1)=Qdg.T1:=by kernel_rfl
theorem Qdg.bits1:Qen Qdg.T1.2 Qdg.B1=true:=by kernel_rfl
set_option maxHeartbeats 8000000 in
set_option maxRecDepth 100000 in
theorem Qdg.calls (k:Nat) (A0_0:Option Addr) (c0_0:Nat) (l0_0:List Int) (a1:Int) (r:Int) (w:World) (hr0_0:Kd.C (Kd.int .i64) w A0_0 l0_0.length l0_0) (hc0_0:l0_0.length≤c0_0) (h:Qdg.f k l0_0 a1=some r):
 Calls Tryz.prog 211 #[.agg #[.slice A0_0 l0_0.length c0_0], .int .i64 a1] w fun e w'=>e= .returned (.int .i64 r)∧Below w.heap.size w w':=by
 have hu26:=Tryz.underlying26;have HR0_0:=Zk hr0_0;have HC0_0:=Zk hc0_0;clear hr0_0 hc0_0;have HB:=Zk (Below.refl w.heap.size w);have H:((Qcf.f k l0_0 (wrap64 ((wrap64 ((shl .i64 1 (l0_0.length:Int)) - 1)) - a1))).bind fun t761=>((Qc2.f k l0_0 t761).bind fun t762=>(some t762)))=some r:=h;clear h;obtain ⟨ji3,hji3⟩: ∃ j_:Int,(shl .i64 1 (l0_0.length:Int))=j_:=⟨_,rfl⟩
 replace H:((Qcf.f k l0_0 (wrap64 ((wrap64 ((ji3) - 1)) - a1))).bind fun t761=>((Qc2.f k l0_0 t761).bind fun t762=>(some t762)))=some r:=by first|(rw [hji3] at H;exact H)|(simp only [hji3] at H ⊢;exact H)
 have hji3_:(IntKind.i64.wrap (1*2 ^ min (l0_0.length:Int).toNat 64))=ji3:=hji3;have hji3z:(l0_0.length:Int)≤64→(IntKind.i64.wrap (1*2 ^ (l0_0.length:Int).toNat))=ji3:=Qea hji3;have hji3p:(IntKind.i64.wrap (1*2 ^ min l0_0.length 64))=ji3:=hji3_;have hji3q:(l0_0.length:Int)≤64→(IntKind.i64.wrap (1*2 ^ l0_0.length))=ji3:=hji3z;have hji3r:(IntKind.i64.wrap (2 ^ min l0_0.length 64))=ji3:=by have h_:=hji3p;rw [Int.one_mul] at h_;exact h_
 have hji3s:(l0_0.length:Int)≤64→(IntKind.i64.wrap (2 ^ l0_0.length))=ji3:=fun hle_=>by have h_:=hji3q hle_;rw [Int.one_mul] at h_;exact h_
 have hji3u:(IntKind.i64.wrap (2 ^ min (l0_0.length:Int).toNat 64))=ji3:=by have h_:=hji3_;rw [Int.one_mul] at h_;exact h_
 have hji3v:(l0_0.length:Int)≤64→(IntKind.i64.wrap (2 ^ (l0_0.length:Int).toNat))=ji3:=fun hle_=>by have h_:=hji3z hle_;rw [Int.one_mul] at h_;exact h_
 have hji3y:(wrap64 (1*2 ^ min (l0_0.length:Int).toNat 64))=ji3:=(Qcm _).symm.trans hji3_;have hji3x:(l0_0.length:Int)≤64→(wrap64 (1*2 ^ (l0_0.length:Int).toNat))=ji3:=fun h_=>(Qcm _).symm.trans (hji3z h_)
 obtain ⟨t761,A4,H⟩:=bs H;(try dsimp only at H)
 obtain ⟨t762,A5,H⟩:=bs H;(try dsimp only at H)
 obtain rfl:=Option.some.inj H;go_enter Tryz.func211,Tryz.ntmps211
 try go_wp2_with (first|(refine bE (N:=2) (cs:= #[.slice A0_0 l0_0.length c0_0]) (t:=26) ?_;intro gb760 hg w6 hbox hb;have BK760:=Zk (hbox);have GW760:=Zk ((by rw [hg];exact (Qh (uB HB)):w.heap.size≤gb760));have GE760:=GW760;replace HB:=Zk (Qb (uB HB) hb);clear hb hbox hg))
 replace BK760:=Zk (Qc7 BK760.out);replace HB:=Zk (Q2 HB.out);refine sU (n:=12) (S:=fun w'=>w'.cell? ⟨gb760,0,none⟩=some (.slice A0_0 l0_0.length c0_0)) (ds:= []) ((Qcs BK760.out 0).trans rfl) (fun hHeld=> ?_);refine Qey Qdg.tab1 Qdg.bits1 (fun HT_ HW_=> ?_);generalize w6.drew=w7 at BK760 HB hHeld ⊢;refine pU 2 7 ?_;refine pU 7 12 ?_;refine tU 0 5 hHeld ?_;refine tU 1 6 hHeld ?_;refine tU 3 8 hHeld ?_;refine pU 4 9 ?_;refine pU 5 10 ?_;refine pU 6 11 ?_;refine pU 8 13 ?_;refine oU 9 (some 14) fun K hK=> ?_
 refine goes_ Tryz.func301 (by kernel_rfl) rfl #[.agg #[.slice A0_0 l0_0.length c0_0], .int .i64 (wrap64 ((wrap64 ((ji3) - 1)) - a1))] (by rfl) rfl rfl (by (try simp only [List.map_toArray,List.map_cons,List.map_nil]);first|done|(simp only [hji3];rfl)|rfl|(simp only [List.length_drop,List.length_take];rfl)) ?_
 with_reducible refine (Qcf.calls k _ _ l0_0 (wrap64 ((wrap64 ((ji3) - 1)) - a1)) t761 _ ?side1 ?side2 A4.out).mono ?_
 (case side1=>repeat (first|exact (Kd.C_below HR0_0.out HB.out)|(with_reducible refine Kd.C_alloc ?_ _)|(with_reducible refine Kd.C_drewN ?_ _)|(with_reducible refine Kd.C_drew ?_)))
 (case side2=>exact HC0_0.out)
 rintro e w8 ⟨rfl,hb⟩;refine ⟨_,rfl,?_⟩;replace BK760:=Zk (Qbg (uK BK760) hb);replace HB:=Zk (Qb (vB HB) hb)
 skip
 skip
 skip
 skip
 refine hK.out _ _ ((Qcs BK760.out 0).trans rfl) (fun hHeld=> ?_);clear hK K;refine nU 14 ?_;refine oU 10 (some 15) fun K hK=> ?_
 refine goes_ Tryz.func298 (by kernel_rfl) rfl #[.agg #[.slice A0_0 l0_0.length c0_0], .int .i64 t761] (by rfl) rfl rfl (by (try simp only [List.map_toArray,List.map_cons,List.map_nil]);first|done|rfl|(simp only [List.length_drop,List.length_take];rfl)) ?_
 with_reducible refine (Qc2.calls k _ _ l0_0 t761 t762 _ ?side1 ?side2 A5.out).mono ?_
 (case side1=>repeat (first|exact (Kd.C_below HR0_0.out HB.out)|(with_reducible refine Kd.C_alloc ?_ _)|(with_reducible refine Kd.C_drewN ?_ _)|(with_reducible refine Kd.C_drew ?_)))
 (case side2=>exact HC0_0.out)
 rintro e w9 ⟨rfl,hb⟩;refine ⟨_,rfl,?_⟩;replace BK760:=Zk (Qbg (uK BK760) hb);replace HB:=Zk (Qb (vB HB) hb)
 skip
 skip
 skip
 skip
 refine hK.out _ _ ((Qcs BK760.out 0).trans rfl) (fun hHeld=> ?_);clear hK K;refine nU 15 ?_;refine pU 11 4 ?_;refine dU ?_
 try go_wp2
 go_ret
 exact ⟨by first|rfl|(simp [Qe,Qf] <;>rfl)|(simp only [←hji3];first|rfl|(simp [Qe,Qf] <;>rfl))|(simp [*,Qe,Qf] <;>rfl),(vB HB)⟩
mutual
def Q3.l0:Nat→Int→Int→List Int→List Int→List Int→Int→Int→List Int→Option (List Int × Bool)
 |0,_,_,_,_,_,_,_,_=>none
 |k+1,x0,x1,x7,x8,x21,x22,x23,x768000=>if x23<x22 then (if 0≤x23 then (if x23<(x21.length:Int) then ((Qct.f k x8 (rd x21 x23)).bind fun t772=>(if t772=true then (Q3.l0 k x0 x1 x7 x8 x21 x22 (wrap64 (x23+1)) x768000) else (Q3.l1 k x0 x1 x7 x8 (rd x21 x23) 0 (rd x21 x23) x21 x22 x23 x768000))) else (none)) else (none)) else (some (x7,true))
def Q3.l1:Nat→Int→Int→List Int→List Int→Int→Int→Int→List Int→Int→Int→List Int→Option (List Int × Bool)
 |0,_,_,_,_,_,_,_,_,_,_,_=>none
 |k+1,x0,x1,x7,x8,x10,x11,x12,x21,x22,x23,x768000=>if x11=0 then (if x8.length<17592186044416 then ((Qdg.f k x768000 x12).bind fun t776=>(Q3.l1 k x0 x1 x7 (x8++ [x12]) x10 (wrap64 (x11+1)) t776 x21 x22 x23 x768000)) else (none)) else (if x12=x10 then ((Qcz.f k x7 (wrap64 (Int.tdiv (wrap64 (x0+x1)) x11))).bind fun t777=>(Q3.l0 k x0 x1 t777 x8 x21 x22 (wrap64 (x23+1)) x768000)) else (if x8.length<17592186044416 then ((Qdg.f k x768000 x12).bind fun t783=>(Q3.l1 k x0 x1 x7 (x8++ [x12]) x10 (wrap64 (x11+1)) t783 x21 x22 x23 x768000)) else (none)))
end
def Q3.f (k:Nat) (a0:Int) (a1:Int):Option (List Int × Bool):=(Qcu.f a0 a1).bind fun t763=>(if t763=true then ((Qs.f k a0 a1).bind fun t764=>((Qcd.f k t764).bind fun t768=>(Q3.l0 k a0 a1 ([] :List Int) ([] :List Int) t768 (t768.length:Int) 0 t764))) else (some (([] :List Int),false)))
theorem Q3.mono_l: ∀ k,(∀ y0 y1 y2 y3 y4 y5 y6 y7,LeO (Q3.l0 k y0 y1 y2 y3 y4 y5 y6 y7) (Q3.l0 (k+1) y0 y1 y2 y3 y4 y5 y6 y7))∧(∀ y0 y1 y2 y3 y4 y5 y6 y7 y8 y9 y10,LeO (Q3.l1 k y0 y1 y2 y3 y4 y5 y6 y7 y8 y9 y10) (Q3.l1 (k+1) y0 y1 y2 y3 y4 y5 y6 y7 y8 y9 y10))
 |0=>⟨fun _ _ _ _ _ _ _ _ r h=>by simp [Q3.l0] at h,fun _ _ _ _ _ _ _ _ _ _ _ r h=>by simp [Q3.l1] at h⟩
 |k+1=>by
  obtain ⟨ih0,ih1⟩:=Q3.mono_l k;refine ⟨?_,?_⟩
  all_goals
   intros
   first|unfold Q3.l0|unfold Q3.l1
   repeat' (with_reducible first|apply ih0|apply ih1|apply Qct.mono|apply Qcd.mono|apply Qs.mono|apply Qcz.mono|apply Qdg.mono|exact LeO.refl _|exact LeO.none _|refine LeO.ite ?_ ?_|refine LeO.bind ?_ (fun _=> ?_))
theorem Q3.mono: ∀ a0 a1 k,LeO (Q3.f k a0 a1) (Q3.f (k+1) a0 a1):=by
 intro a0 a1 k;obtain ⟨ih0,ih1⟩:=Q3.mono_l k;unfold Q3.f
 repeat' (with_reducible first|apply ih0|apply ih1|apply Qct.mono|apply Qcd.mono|apply Qs.mono|apply Qcz.mono|apply Qdg.mono|exact LeO.refl _|exact LeO.none _|refine LeO.ite ?_ ?_|refine LeO.bind ?_ (fun _=> ?_))
set_option maxHeartbeats 8000000 in
set_option maxRecDepth 100000 in
theorem Q3.calls (k:Nat) (a0:Int) (a1:Int) (r1:List Int) (r2:Bool) (w:World) (h:Q3.f k a0 a1=some (r1,r2)):
 Calls Tryz.prog 63 #[.int .i64 a0, .int .i64 a1] w fun e w'=> ∃ v0_:Value,e= .returned (.tuple #[v0_, .bool r2])∧Kd.R (Kd.int .i64) 3 w' w.heap.size (fun _=>True) v0_ r1∧Below w.heap.size w w':=by
 have hu26:=Tryz.underlying26;have HB:=Zk (Below.refl w.heap.size w);have H:((Qcu.f a0 a1).bind fun t763=>(if t763=true then ((Qs.f k a0 a1).bind fun t764=>((Qcd.f k t764).bind fun t768=>(Q3.l0 k a0 a1 ([] :List Int) ([] :List Int) t768 (t768.length:Int) 0 t764))) else (some (([] :List Int),false))))=some (r1,r2):=h;clear h;obtain ⟨t763,A3,H⟩:=bs H;(try dsimp only at H)
 by_cases c4:t763=true
 ·
  subst c4;rw [if_pos rfl] at H;obtain ⟨t764,A5,H⟩:=bs H;(try dsimp only at H)
  obtain ⟨t768,A6,H⟩:=bs H;(try dsimp only at H)
  have H':=Zk H;clear H;go_enter Tryz.func63,Tryz.ntmps63;go_wp2_with (first|(refine gA (some 15) Tryz.func203 #[.int .i64 a0, .int .i64 a1] ?_;(with_reducible refine (Qcu.calls a0 a1 true _ A3.out).mono ?_);rintro e w' ⟨rfl,⟨nd,rfl⟩⟩;refine ⟨_,rfl,?_⟩)|(refine gA (some 19) Tryz.func209 #[.int .i64 a0, .int .i64 a1] ?_;(with_reducible refine (Qs.calls k a0 a1 t764 _ A5.out).mono ?_);rintro e w7 ⟨v765,rfl,ho0,hb⟩;refine ⟨_,rfl,?_⟩;have HO766:=Zk (Kd.R_lower ho0 (Qh (uB HB)));replace HB:=Zk (Qb (uB HB) hb);(try clear hb ho0))|(refine bE (N:=6) (cs:= #[.slice none 0 0]) (t:=26) ?_;intro gb767 hg w8 hbox hb;replace HO766:=Zk (Kd.R_below (uR HO766) hb);have BK767:=Zk (hbox);have GW767:=Zk ((by rw [hg];exact (Qh (uB HB)):w.heap.size≤gb767));have GE767:=GW767;replace HB:=Zk (Qb (uB HB) hb);clear hb hbox hg;obtain ⟨Ao9,co9,eo9⟩:=Kd.R_slice HO766.out;subst eo9;have hcz10_0:=bC BK767;have hfz10_0:=Q6 BK767.out 0)|(refine gA (some 21) Tryz.func171 #[.agg #[.slice Ao9 t764.length co9]] ?_;(with_reducible refine (Qcd.calls k _ _ t764 t768 _ ?side1 ?side2 A6.out).mono ?_);(case side1=>refine (Kd.R_reads' (e:=3) (base:=w.heap.size) (ok:=fun k_=>True) (n:=t764.length) (c:=co9) ?_).2.2;exact (rF HO766 BK767 (.slice Ao9 t764.length co9)));(case side2=>exact (Kd.R_reads' HO766.out).2.1);rintro e w11 ⟨v769,rfl,ho0,hb⟩;refine ⟨_,rfl,?_⟩;have HO770:=Zk (Kd.R_lower (Kd.R_new' ho0 (Kd.R_lt (rF HO766 BK767 (.slice Ao9 t764.length co9)))) (Qh (vB HB)));replace HO766:=Zk (Kd.R_elder' (rF HO766 BK767 (.slice Ao9 t764.length co9)) (Kd.R_base ho0) hb);replace BK767:=Zk (Qbg (g:=gb767) (o:= .cells #[.slice Ao9 t764.length co9] 26 (0,0)) bP hb);replace HB:=Zk (Qb (vB HB) hb);(try clear hb ho0);obtain ⟨Ao12,co12,eo12⟩:=Kd.R_slice HO770.out;subst eo12))
  go_loopg [7,8,23] k (fun kq v7 v8 v23 w'=> ∃ (x7_1:List Int) (x8_1:List Int) (x23_1:Int),v23= .int .i64 x23_1∧Z0 (Q3.l0 kq a0 a1 x7_1 x8_1 t768 (t768.length:Int) x23_1 t764=some (r1,r2))∧Z0 (kq≤k)∧Z0 (Kd.R (Kd.int .i64) 3 w' w.heap.size (fun k_=>some k_≠(v8:Value).ownBlock∧some k_≠((.slice Ao12 t768.length co12):Value).ownBlock∧some k_≠((.slice Ao9 t764.length co9):Value).ownBlock) v7 x7_1)∧Z0 (Kd.R (Kd.int .i64) 3 w' w.heap.size (fun k_=>some k_≠(v7:Value).ownBlock∧some k_≠((.slice Ao12 t768.length co12):Value).ownBlock∧some k_≠((.slice Ao9 t764.length co9):Value).ownBlock) v8 x8_1)∧Z0 (Kd.R (Kd.int .i64) 3 w' w.heap.size (fun k_=>some k_≠(v7:Value).ownBlock∧some k_≠(v8:Value).ownBlock∧some k_≠((.slice Ao9 t764.length co9):Value).ownBlock) (.slice Ao12 t768.length co12) t768)∧Z0 (Kd.R (Kd.int .i64) 3 w' w.heap.size (fun k_=>some k_≠(v7:Value).ownBlock∧some k_≠(v8:Value).ownBlock∧some k_≠((.slice Ao12 t768.length co12):Value).ownBlock) (.slice Ao9 t764.length co9) t764)∧Z0 (w'.heap[gb767]? =some (.cells #[(.slice Ao9 t764.length co9)] 26 (0,0)))∧Z0 (Below w.heap.size w w'))
  case atStart=>exact ⟨(([] :List Int)),(([] :List Int)),(0),(by first|rfl|(simp;done)|(simp [*];done)),H',⟨Nat.le_refl _⟩,⟨by first|exact Kd.R_nil _ _ _ _ _|exact Kd.N_nil _ _ _ _ _|exact Kd.V_nil _ _ _ _ _|exact Kd.Q_nil _ _ _ _ _|exact Kd.S_nil _ _ _ _ _⟩,⟨by first|exact Kd.R_nil _ _ _ _ _|exact Kd.N_nil _ _ _ _ _|exact Kd.V_nil _ _ _ _ _|exact Kd.Q_nil _ _ _ _ _|exact Kd.S_nil _ _ _ _ _⟩,⟨Kd.R_mono (uR HO770) (fun _ hk=>⟨(by simp [Value.ownBlock]),⟨(by simp [Value.ownBlock]),hk.2⟩⟩)⟩,⟨Kd.R_mono (uR HO766) (fun _ hk=>⟨(by simp [Value.ownBlock]),⟨(by simp [Value.ownBlock]),hk.2⟩⟩)⟩,⟨uK BK767⟩,⟨(vB HB)⟩⟩
  case round=>
   clear H'
   try clear hcz10_0 hfz10_0
   obtain ⟨x7_1,x8_1,x23_1,rfl,HA,HK1,HO_7,HO_8,HO_21,HO_768000,BK767,HB⟩:=hrel;cases gk with
   |zero=>exact absurd HA.out (by simp [Q3.l0])
   |succ k1=>
    have H:=HA.out;clear HA;simp only [Q3.l0] at H
    by_cases c13:x23_1<(t768.length:Int)
    ·
     rw [if_pos c13] at H;have c13b0:=decide_eq_true c13;clear c13
     by_cases c14:0≤x23_1
     ·
      rw [if_pos c14] at H;have c14b0:=decide_eq_true c14;clear c14
      by_cases c15:x23_1<(t768.length:Int)
      ·
       rw [if_pos c15] at H;have c15b0:=decide_eq_true c15;clear c15;obtain ⟨t772,A16,H⟩:=bs H;(try dsimp only at H)
       by_cases c17:t772=true
       ·
        subst c17;rw [if_pos rfl] at H;have H':=Zk H;clear H;have p771:0≤(x23_1:Int):=of_decide_eq_true (by first|(with_reducible assumption)|assumption);have q771:x23_1<(t768.length:Int):=of_decide_eq_true (by first|(with_reducible assumption)|assumption);obtain ⟨ad771,e771,hx771_0⟩:=Kd.at_int (Kd.R_reads' HO_21.out).2.2 x23_1 p771 q771;cases e771;replace p771:=eq_true p771;replace q771:=eq_true q771;obtain ⟨Ao18,co18,eo18⟩:=Kd.R_slice HO_8.out;subst eo18;go_wp2_with (first|(refine gA (some 29) Tryz.func210 #[.slice Ao18 x8_1.length co18, .int .i64 (rd t768 x23_1)] ?_;(with_reducible refine (Qct.calls k1 _ _ x8_1 (rd t768 x23_1) true _ (uE HO_8) ?side2 A16.out).mono ?_);(case side2=>exact (Kd.R_reads' HO_8.out).2.1);rintro e w' ⟨rfl,⟨nd,rfl⟩⟩;refine ⟨_,rfl,?_⟩));go_roundg k1
        case measure=>have:=HK1.out;omega
        case rel=>exact ⟨(x7_1),(x8_1),(wrap64 (x23_1+1)),(by first|rfl|(simp;done)|(simp [*];done)),H',⟨by have:=HK1.out;omega⟩,⟨uR HO_7⟩,⟨uR HO_8⟩,⟨uR HO_21⟩,⟨uR HO_768000⟩,⟨uK BK767⟩,⟨(vB HB)⟩⟩
       ·
        replace c17:=Bool.eq_false_iff.mpr c17;subst c17;rw [if_neg (show ¬ (false=true) by decide)] at H;have H':=Zk H;clear H;have p771:0≤(x23_1:Int):=of_decide_eq_true (by first|(with_reducible assumption)|assumption);have q771:x23_1<(t768.length:Int):=of_decide_eq_true (by first|(with_reducible assumption)|assumption);obtain ⟨ad771,e771,hx771_0⟩:=Kd.at_int (Kd.R_reads' HO_21.out).2.2 x23_1 p771 q771;cases e771;replace p771:=eq_true p771;replace q771:=eq_true q771;obtain ⟨Ao19,co19,eo19⟩:=Kd.R_slice HO_8.out;subst eo19;go_wp2_with (first|(refine gA (some 29) Tryz.func210 #[.slice Ao19 x8_1.length co19, .int .i64 (rd t768 x23_1)] ?_;(with_reducible refine (Qct.calls k1 _ _ x8_1 (rd t768 x23_1) false _ (uE HO_8) ?side2 A16.out).mono ?_);(case side2=>exact (Kd.R_reads' HO_8.out).2.1);rintro e w' ⟨rfl,⟨nd,rfl⟩⟩;refine ⟨_,rfl,?_⟩))
        go_loopg [8,11,12] k1 (fun kq v8 v11 v12 w'=> ∃ (x8_2:List Int) (x11_2:Int) (x12_2:Int),v11= .int .i64 x11_2∧v12= .int .i64 x12_2∧Z0 (Q3.l1 kq a0 a1 x7_1 x8_2 (rd t768 x23_1) x11_2 x12_2 t768 (t768.length:Int) x23_1 t764=some (r1,r2))∧Z0 (kq≤k1)∧Z0 (Kd.R (Kd.int .i64) 3 w' w.heap.size (fun k_=>some k_≠(v8:Value).ownBlock∧some k_≠((.slice (some ad771) t768.length co12):Value).ownBlock∧some k_≠((.slice Ao9 t764.length co9):Value).ownBlock) u7 x7_1)∧Z0 (Kd.R (Kd.int .i64) 3 w' w.heap.size (fun k_=>some k_≠(u7:Value).ownBlock∧some k_≠((.slice (some ad771) t768.length co12):Value).ownBlock∧some k_≠((.slice Ao9 t764.length co9):Value).ownBlock) v8 x8_2)∧Z0 (Kd.R (Kd.int .i64) 3 w' w.heap.size (fun k_=>some k_≠(u7:Value).ownBlock∧some k_≠(v8:Value).ownBlock∧some k_≠((.slice Ao9 t764.length co9):Value).ownBlock) (.slice (some ad771) t768.length co12) t768)∧Z0 (Kd.R (Kd.int .i64) 3 w' w.heap.size (fun k_=>some k_≠(u7:Value).ownBlock∧some k_≠(v8:Value).ownBlock∧some k_≠((.slice (some ad771) t768.length co12):Value).ownBlock) (.slice Ao9 t764.length co9) t764)∧Z0 (w'.heap[gb767]? =some (.cells #[(.slice Ao9 t764.length co9)] 26 (0,0)))∧Z0 (Below w.heap.size w w'))
        case atStart=>exact ⟨(x8_1),(0),(rd t768 x23_1),(by first|rfl|(simp;done)|(simp [*];done)),(by first|rfl|(simp;done)|(simp [*];done)),H',⟨Nat.le_refl _⟩,⟨uR HO_7⟩,⟨uR HO_8⟩,⟨uR HO_21⟩,⟨uR HO_768000⟩,⟨uK BK767⟩,⟨(vB HB)⟩⟩
        case round=>
         clear H'
         try clear c13b0 c14b0 c15b0 hx771_0 p771 q771
         obtain ⟨x8_2,x11_2,x12_2,rfl,rfl,HA,HK2,HO_7,HO_8,HO_21,HO_768000,BK767,HB⟩:=hrel;cases gk with
         |zero=>exact absurd HA.out (by simp [Q3.l1])
         |succ k2=>
          have H:=HA.out;clear HA;simp only [Q3.l1] at H
          by_cases c20:x11_2=0
          ·
           rw [if_pos c20] at H;have c20b0:(x11_2==0)=true:=beq_iff_eq.mpr c20;have c20b1:(x11_2 !=0)=false:=bne_eq_false_iff_eq.mpr c20;clear c20
           by_cases c21:x8_2.length<17592186044416
           ·
            rw [if_pos c21] at H;have LMc21:=Zk c21;clear c21;obtain ⟨y773,hy773⟩: ∃ y_:List Int,y_=(x8_2++ [x12_2]):=⟨_,rfl⟩
            replace H:((Qdg.f k2 t764 x12_2).bind fun t776=>(Q3.l1 k2 a0 a1 x7_1 y773 (rd t768 x23_1) (wrap64 (x11_2+1)) t776 t768 (t768.length:Int) x23_1 t764))=some (r1,r2):=by first|(rw [hy773];with_reducible exact H)|(have H2_:=(Option.bind_some _ _).symm.trans H;rw [hy773];with_reducible exact H2_)|(have H2_:=(Option.bind_some _ _).symm.trans H;with_reducible exact H2_)|with_reducible exact H|(rw [hy773];exact H)|exact H
            have Ny773:=Zk hy773;clear hy773;obtain ⟨t776,A22,H⟩:=bs H;(try dsimp only at H)
            have H':=Zk H;clear H;go_wp2_with (first|((with_reducible refine Qb1 (b:= .append) (xs:= #[.tmp 41, .tmp 43]) rfl ?_);at_builtin;refine Kd.R_append (Kd.int .i64) (w0:=w) w.heap.size rfl (.tmp 41) (.tmp 43) 24 3 (.int .i64 0) 8 rfl Tryz.underlying24 Qdq rfl (by decide) (by omega) u8 x8_2 x12_2 [.int .i64 x12_2] (fun k_=>some k_≠(u7:Value).ownBlock∧some k_≠(.slice (some ad771) t768.length co12:Value).ownBlock∧some k_≠(.slice Ao9 t764.length co9:Value).ownBlock) (fun _=>False) rfl rfl ?aP (fun _ hk=>hk.elim) ?aF ?aO ?aB ?aS ?aL ?_;(case aP=>exact rfl);(case aB=>exact (vB HB));(case aF=>exact (fun k_ hk=>⟨Kd.fresh' (Kd.R_lt (uR HO_7)) k_ hk,Kd.fresh' (Kd.R_lt (uR HO_21)) k_ hk,Kd.fresh' (Kd.R_lt (uR HO_768000)) k_ hk⟩));(case aO=>exact (uR HO_8));(case aS=>exact (Qh (vB HB)));(case aL=>have:=LMc21.out;omega);intro v774 w23 ho hb hg hat;rw [←Ny773.out] at ho;replace HO_7:=Zk (Kd.R_after (ok:=(fun k_=>some k_≠(.slice (some ad771) t768.length co12:Value).ownBlock∧some k_≠(.slice Ao9 t764.length co9:Value).ownBlock)) (Kd.R_mono (uR HO_7) (fun _ hk=>⟨⟨hk.2.1,hk.2.2⟩,hk.1⟩)) hg hat);replace HO_21:=Zk (Kd.R_after (ok:=(fun k_=>some k_≠(u7:Value).ownBlock∧some k_≠(.slice Ao9 t764.length co9:Value).ownBlock)) (Kd.R_mono (uR HO_21) (fun _ hk=>⟨⟨hk.1,hk.2.2⟩,hk.2.1⟩)) hg hat);replace HO_768000:=Zk (Kd.R_after (ok:=(fun k_=>some k_≠(u7:Value).ownBlock∧some k_≠(.slice (some ad771) t768.length co12:Value).ownBlock)) (Kd.R_mono (uR HO_768000) (fun _ hk=>⟨⟨hk.1,hk.2.2⟩,hk.2.1⟩)) hg hat);replace BK767:=Zk (Qc8 (uK BK767) hg (Kd.R_ne HO_8.out BK767.out (by decide)));replace HB:=Zk (hb);have HO775:=Zk (ho);clear HO_8;clear ho hb hg hat;have hcz24_0:=bC BK767;have hfz24_0:=Q6 BK767.out 0)|(refine gA (some 40) Tryz.func211 #[.agg #[.slice Ao9 t764.length co9], .int .i64 x12_2] ?_;(with_reducible refine (Qdg.calls k2 _ _ t764 x12_2 t776 _ (uE HO_768000) ?side2 A22.out).mono ?_);(case side2=>exact (Kd.R_reads' HO_768000.out).2.1);rintro e w25 ⟨rfl,hb⟩;refine ⟨_,rfl,?_⟩;replace HO_7:=Zk (Kd.R_below (uR HO_7) hb);replace HO_21:=Zk (Kd.R_below (uR HO_21) hb);replace HO_768000:=Zk (Kd.R_below (uR HO_768000) hb);replace HO775:=Zk (Kd.R_below (uR HO775) hb);replace BK767:=Zk (Qbg (uK BK767) hb);replace HB:=Zk (Qb (vB HB) hb);(try clear hb)));go_roundg k2
            case measure=>have:=HK1.out;have:=HK2.out;omega
            case rel=>exact ⟨(y773),(wrap64 (x11_2+1)),(t776),(by first|rfl|(simp;done)|(simp [*];done)),(by first|rfl|(simp;done)|(simp [*];done)),H',⟨by have:=HK1.out;have:=HK2.out;omega⟩,⟨Kd.R_mono (uR HO_7) (fun _ hk=>⟨hk.2,⟨hk.1.1,hk.1.2⟩⟩)⟩,⟨uR HO775⟩,⟨Kd.R_mono (uR HO_21) (fun _ hk=>⟨hk.1.1,⟨hk.2,hk.1.2⟩⟩)⟩,⟨Kd.R_mono (uR HO_768000) (fun _ hk=>⟨hk.1.1,⟨hk.2,hk.1.2⟩⟩)⟩,⟨uK BK767⟩,⟨(vB HB)⟩⟩
           ·
            rw [if_neg c21] at H;exact absurd H (by simp)
          ·
           rw [if_neg c20] at H;have c20b0:(x11_2==0)=false:=beq_eq_false_iff_ne.mpr c20;have c20b1:(x11_2 !=0)=true:=bne_iff_ne.mpr c20
           by_cases c26:x12_2=(rd t768 x23_1)
           ·
            rw [if_pos c26] at H;have c26b0:(x12_2==(rd t768 x23_1))=true:=beq_iff_eq.mpr c26;have c26b1:(x12_2 !=(rd t768 x23_1))=false:=bne_eq_false_iff_eq.mpr c26;clear c26;obtain ⟨t777,A27,H⟩:=bs H;(try dsimp only at H)
            have H':=Zk H;clear H;obtain ⟨Ao28,co28,eo28⟩:=Kd.R_slice HO_7.out;subst eo28;go_wp2_with (first|(refine gA (some 53) Tryz.func212 #[.slice Ao28 x7_1.length co28, .int .i64 (wrap64 (Int.tdiv (wrap64 (a0+a1)) x11_2))] ?_;(with_reducible refine (Qcz.calls k2 _ _ x7_1 (wrap64 (Int.tdiv (wrap64 (a0+a1)) x11_2)) t777 _ (uE HO_7) ?side2 A27.out).mono ?_);(case side2=>exact (Kd.R_reads' HO_7.out).2.1);rintro e w29 ⟨v778,rfl,ho0,hb⟩;refine ⟨_,rfl,?_⟩;have HO779:=Zk (Kd.R_lower (Kd.R_new' (Kd.R_new' (Kd.R_new' (Kd.R_new' ho0 (Kd.R_lt (uR HO_7))) (Kd.R_lt (uR HO_8))) (Kd.R_lt (uR HO_21))) (Kd.R_lt (uR HO_768000))) (Qh (vB HB)));replace HO_7:=Zk (Kd.R_elder' (uR HO_7) (Kd.R_base ho0) hb);replace HO_8:=Zk (Kd.R_elder' (uR HO_8) (Kd.R_base ho0) hb);replace HO_21:=Zk (Kd.R_elder' (uR HO_21) (Kd.R_base ho0) hb);replace HO_768000:=Zk (Kd.R_elder' (uR HO_768000) (Kd.R_base ho0) hb);replace BK767:=Zk (Qbg (uK BK767) hb);replace HB:=Zk (Qb (vB HB) hb);(try clear hb ho0)));go_roundg k2
            case measure=>have:=HK1.out;have:=HK2.out;omega
            case rel=>exact ⟨(t777),(x8_2),(wrap64 (x23_1+1)),(by first|rfl|(simp;done)|(simp [*];done)),H',⟨by have:=HK1.out;have:=HK2.out;omega⟩,⟨Kd.R_mono (uR HO779) (fun _ hk=>⟨hk.1.1.2,⟨hk.1.2,hk.2⟩⟩)⟩,⟨Kd.R_mono (uR HO_8) (fun _ hk=>⟨hk.2,⟨hk.1.2.1,hk.1.2.2⟩⟩)⟩,⟨Kd.R_mono (uR HO_21) (fun _ hk=>⟨hk.2,⟨hk.1.2.1,hk.1.2.2⟩⟩)⟩,⟨Kd.R_mono (uR HO_768000) (fun _ hk=>⟨hk.2,⟨hk.1.2.1,hk.1.2.2⟩⟩)⟩,⟨uK BK767⟩,⟨(vB HB)⟩⟩
           ·
            rw [if_neg c26] at H;have c26b0:(x12_2==(rd t768 x23_1))=false:=beq_eq_false_iff_ne.mpr c26;have c26b1:(x12_2 !=(rd t768 x23_1))=true:=bne_iff_ne.mpr c26
            by_cases c30:x8_2.length<17592186044416
            ·
             rw [if_pos c30] at H;have LMc30:=Zk c30;clear c30;obtain ⟨y780,hy780⟩: ∃ y_:List Int,y_=(x8_2++ [x12_2]):=⟨_,rfl⟩
             replace H:((Qdg.f k2 t764 x12_2).bind fun t783=>(Q3.l1 k2 a0 a1 x7_1 y780 (rd t768 x23_1) (wrap64 (x11_2+1)) t783 t768 (t768.length:Int) x23_1 t764))=some (r1,r2):=by first|(rw [hy780];with_reducible exact H)|(have H2_:=(Option.bind_some _ _).symm.trans H;rw [hy780];with_reducible exact H2_)|(have H2_:=(Option.bind_some _ _).symm.trans H;with_reducible exact H2_)|with_reducible exact H|(rw [hy780];exact H)|exact H
             have Ny780:=Zk hy780;clear hy780;obtain ⟨t783,A31,H⟩:=bs H;(try dsimp only at H)
             have H':=Zk H;clear H;go_wp2_with (first|((with_reducible refine Qb1 (b:= .append) (xs:= #[.tmp 41, .tmp 43]) rfl ?_);at_builtin;refine Kd.R_append (Kd.int .i64) (w0:=w) w.heap.size rfl (.tmp 41) (.tmp 43) 24 3 (.int .i64 0) 8 rfl Tryz.underlying24 Qdq rfl (by decide) (by omega) u8 x8_2 x12_2 [.int .i64 x12_2] (fun k_=>some k_≠(u7:Value).ownBlock∧some k_≠(.slice (some ad771) t768.length co12:Value).ownBlock∧some k_≠(.slice Ao9 t764.length co9:Value).ownBlock) (fun _=>False) rfl rfl ?aP (fun _ hk=>hk.elim) ?aF ?aO ?aB ?aS ?aL ?_;(case aP=>exact rfl);(case aB=>exact (vB HB));(case aF=>exact (fun k_ hk=>⟨Kd.fresh' (Kd.R_lt (uR HO_7)) k_ hk,Kd.fresh' (Kd.R_lt (uR HO_21)) k_ hk,Kd.fresh' (Kd.R_lt (uR HO_768000)) k_ hk⟩));(case aO=>exact (uR HO_8));(case aS=>exact (Qh (vB HB)));(case aL=>have:=LMc30.out;omega);intro v781 w32 ho hb hg hat;rw [←Ny780.out] at ho;replace HO_7:=Zk (Kd.R_after (ok:=(fun k_=>some k_≠(.slice (some ad771) t768.length co12:Value).ownBlock∧some k_≠(.slice Ao9 t764.length co9:Value).ownBlock)) (Kd.R_mono (uR HO_7) (fun _ hk=>⟨⟨hk.2.1,hk.2.2⟩,hk.1⟩)) hg hat);replace HO_21:=Zk (Kd.R_after (ok:=(fun k_=>some k_≠(u7:Value).ownBlock∧some k_≠(.slice Ao9 t764.length co9:Value).ownBlock)) (Kd.R_mono (uR HO_21) (fun _ hk=>⟨⟨hk.1,hk.2.2⟩,hk.2.1⟩)) hg hat);replace HO_768000:=Zk (Kd.R_after (ok:=(fun k_=>some k_≠(u7:Value).ownBlock∧some k_≠(.slice (some ad771) t768.length co12:Value).ownBlock)) (Kd.R_mono (uR HO_768000) (fun _ hk=>⟨⟨hk.1,hk.2.2⟩,hk.2.1⟩)) hg hat);replace BK767:=Zk (Qc8 (uK BK767) hg (Kd.R_ne HO_8.out BK767.out (by decide)));replace HB:=Zk (hb);have HO782:=Zk (ho);clear HO_8;clear ho hb hg hat;have hcz33_0:=bC BK767;have hfz33_0:=Q6 BK767.out 0)|(refine gA (some 40) Tryz.func211 #[.agg #[.slice Ao9 t764.length co9], .int .i64 x12_2] ?_;(with_reducible refine (Qdg.calls k2 _ _ t764 x12_2 t783 _ (uE HO_768000) ?side2 A31.out).mono ?_);(case side2=>exact (Kd.R_reads' HO_768000.out).2.1);rintro e w34 ⟨rfl,hb⟩;refine ⟨_,rfl,?_⟩;replace HO_7:=Zk (Kd.R_below (uR HO_7) hb);replace HO_21:=Zk (Kd.R_below (uR HO_21) hb);replace HO_768000:=Zk (Kd.R_below (uR HO_768000) hb);replace HO782:=Zk (Kd.R_below (uR HO782) hb);replace BK767:=Zk (Qbg (uK BK767) hb);replace HB:=Zk (Qb (vB HB) hb);(try clear hb)));go_roundg k2
             case measure=>have:=HK1.out;have:=HK2.out;omega
             case rel=>exact ⟨(y780),(wrap64 (x11_2+1)),(t783),(by first|rfl|(simp;done)|(simp [*];done)),(by first|rfl|(simp;done)|(simp [*];done)),H',⟨by have:=HK1.out;have:=HK2.out;omega⟩,⟨Kd.R_mono (uR HO_7) (fun _ hk=>⟨hk.2,⟨hk.1.1,hk.1.2⟩⟩)⟩,⟨uR HO782⟩,⟨Kd.R_mono (uR HO_21) (fun _ hk=>⟨hk.1.1,⟨hk.2,hk.1.2⟩⟩)⟩,⟨Kd.R_mono (uR HO_768000) (fun _ hk=>⟨hk.1.1,⟨hk.2,hk.1.2⟩⟩)⟩,⟨uK BK767⟩,⟨(vB HB)⟩⟩
            ·
             rw [if_neg c30] at H;exact absurd H (by simp)
      ·
       rw [if_neg c15] at H;exact absurd H (by simp)
     ·
      rw [if_neg c14] at H;exact absurd H (by simp)
    ·
     rw [if_neg c13] at H;have c13b0:=decide_eq_false c13;clear c13;simp only [Option.some.injEq,Prod.mk.injEq] at H;obtain ⟨rfl,rfl⟩:=H;go_wp2
     go_ret2
     exact ⟨_,by first|rfl|(simp [Qe,Qf] <;>rfl)|(simp [*,Qe,Qf] <;>rfl),Kd.R_mono (uR HO_7) (fun _ hk=>trivial),(vB HB)⟩
 ·
  replace c4:=Bool.eq_false_iff.mpr c4;subst c4;rw [if_neg (show ¬ (false=true) by decide)] at H;simp only [Option.some.injEq,Prod.mk.injEq] at H;obtain ⟨rfl,rfl⟩:=H;go_enter Tryz.func63,Tryz.ntmps63;go_wp2_with (first|(refine gA (some 15) Tryz.func203 #[.int .i64 a0, .int .i64 a1] ?_;(with_reducible refine (Qcu.calls a0 a1 false _ A3.out).mono ?_);rintro e w' ⟨rfl,⟨nd,rfl⟩⟩;refine ⟨_,rfl,?_⟩))
  go_ret2
  exact ⟨_,by first|rfl|(simp [Qe,Qf] <;>rfl)|(simp [*,Qe,Qf] <;>rfl),by first|exact Kd.R_nil _ _ _ _ _|exact Kd.N_nil _ _ _ _ _|exact Kd.V_nil _ _ _ _ _|exact Kd.Q_nil _ _ _ _ _|exact Kd.S_nil _ _ _ _ _,uB HB⟩
def Qbs.j0:Nat→Int→Int→Bool→List Int→Int→Int→Option (List Int × List Int)
 |0,_,_,_,_,_,_=>none
 |k+1,x5,x6,x28,x785000,x785001,x785002=>if x28=true then ((Q5.f k x785000 x785001 x785002).bind fun bt793=>((Qn.f x785000 bt793.2.1 bt793.2.2 4).bind fun bt798=>(some (bt793.1,(([bt798.1,1] :List Int)))))) else ((Qdb.f k x5 x6).bind fun bt804=>((Qv.f k bt804.1 (wrap64 (x5+x6))).bind fun bt808=>((Q3.f k x5 x6).bind fun bt812=>((Qbq.f x785000 x785001 x785002 4).bind fun bt816=>(if bt816.1=true then ((Qn.f x785000 bt816.2.1 bt816.2.2 3).bind fun bt819=>(if bt812.1.length<17592186044416 then (some (bt808.1,(bt812.1++ [wrap64 (1+bt819.1)]))) else (none))) else (some (bt808.1,bt812.1)))))))
def Qbs.f (k:Nat) (l0:List Int):Option (List Int × List Int):=(Qc9.f l0 0 0).bind fun bt785=>((Qcu.f bt785.1 bt785.2.1).bind fun t789=>(if t789=true then ((Qbq.f l0 bt785.2.2.1 bt785.2.2.2 5).bind fun bt790=>(Qbs.j0 k bt785.1 bt785.2.1 bt790.1 l0 bt790.2.1 bt790.2.2)) else (Qbs.j0 k bt785.1 bt785.2.1 true l0 bt785.2.2.1 bt785.2.2.2)))
theorem Qbs.mono_l: ∀ k,(∀ y0 y1 y2 y3 y4 y5,LeO (Qbs.j0 k y0 y1 y2 y3 y4 y5) (Qbs.j0 (k+1) y0 y1 y2 y3 y4 y5))
 |0=>fun _ _ _ _ _ _ r h=>by simp [Qbs.j0] at h
 |k+1=>by
  have ih0:=Qbs.mono_l k
  ·
   intro y0 y1 y2 y3 y4 y5;unfold Qbs.j0
   repeat' first
   |(with_reducible exact ih0 _ _ _ _ _ _)
   |(with_reducible exact Qdb.mono _ _ _)
   |(with_reducible exact Qv.mono _ _ _)
   |(with_reducible exact Q3.mono _ _ _)
   |(with_reducible exact Q5.mono _ _ _ _)
   |(with_reducible exact LeO.refl _)
   |(with_reducible exact LeO.none _)
   |(with_reducible refine LeO.ite ?_ ?_)
   |(with_reducible refine LeO.bind ?_ (fun _=> ?_))
   |exact ih0 _ _ _ _ _ _
   |exact Qdb.mono _ _ _
   |exact Qv.mono _ _ _
   |exact Q3.mono _ _ _
   |exact Q5.mono _ _ _ _
   |exact LeO.none _
   |refine LeO.ite ?_ ?_
   |refine LeO.bind ?_ (fun _=> ?_)
theorem Qbs.mono: ∀ a0 k,LeO (Qbs.f k a0) (Qbs.f (k+1) a0):=by
 intro a0 k;have ih0:=Qbs.mono_l k;unfold Qbs.f
 repeat' (with_reducible first|apply ih0|apply Qdb.mono|apply Qv.mono|apply Q3.mono|apply Q5.mono|exact LeO.refl _|exact LeO.none _|refine LeO.ite ?_ ?_|refine LeO.bind ?_ (fun _=> ?_))
set_option maxHeartbeats 8000000 in
set_option maxRecDepth 100000 in
theorem Qbs.calls (k:Nat) (A0:Option Addr) (c0:Nat) (l0:List Int) (r1:List Int) (r2:List Int) (w:World) (hr0:Kd.C (Kd.int .u8) w A0 l0.length l0) (hc0:l0.length≤c0) (h:Qbs.f k l0=some (r1,r2)):
 Calls Tryz.prog 143 #[.slice A0 l0.length c0] w fun e w'=> ∃ v0_ v1_:Value,e= .returned (.tuple #[v0_,v1_])∧Kd.R (Kd.int .i64) 3 w' w.heap.size (fun k_=>some k_≠(v1_:Value).ownBlock) v0_ r1∧Kd.R (Kd.int .i64) 3 w' w.heap.size (fun k_=>some k_≠(v0_:Value).ownBlock) v1_ r2∧Below w.heap.size w w':=by
 have hu94:=Tryz.underlying94;have HR0:=Zk hr0;have HC0:=Zk hc0;clear hr0 hc0;have HB:=Zk (Below.refl w.heap.size w);have H:((Qc9.f l0 0 0).bind fun bt785=>((Qcu.f bt785.1 bt785.2.1).bind fun t789=>(if t789=true then ((Qbq.f l0 bt785.2.2.1 bt785.2.2.2 5).bind fun bt790=>(Qbs.j0 k bt785.1 bt785.2.1 bt790.1 l0 bt790.2.1 bt790.2.2)) else (Qbs.j0 k bt785.1 bt785.2.1 true l0 bt785.2.2.1 bt785.2.2.2))))=some (r1,r2):=h;clear h;obtain ⟨⟨t785,t786,t787,t788⟩,A2,H⟩:=bs H;(try dsimp only at H)
 have HC3:=Zk H;clear H;go_enter Tryz.func143,Tryz.ntmps143;go_upto_region 3 with (first|((with_reducible refine Qu (N:=15) rfl ?_);refine Qfh ?hg (N:=15) ?hd (cs:= #[.slice A0 l0.length c0, .int .i64 0, .int .u64 0]) (t:=94) ?hr ?_;(case hd=>rfl);(case hg=>rfl);(case hr=>first|(go_simp;done)|(go_simp;rfl));intro gb784 hg w4 hbox hb;have HI784:=Zk ((⟨_,_,hbox,(by rw [hg];exact (Qh (by repeat (first|(with_reducible first|exact HB.out|apply Qj|apply Qk|apply Q2)|exact HB.out))):w.heap.size≤gb784),HR0.out⟩:Qa w _ gb784 l0 0 0));have GW784:=Zk ((by rw [hg];exact (Qh (by repeat (first|(with_reducible first|exact HB.out|apply Qj|apply Qk|apply Q2)|exact HB.out))):w.heap.size≤gb784));have GE784:=GW784;replace HB:=Zk (Qb (by repeat (first|(with_reducible first|exact HB.out|apply Qj|apply Qk|apply Q2)|exact HB.out)) hb);clear hb hbox hg)|((with_reducible refine Qc5 (f:=213) rfl ?_);refine Qd3 (some 18) rfl rfl Tryz.func213 (by kernel_rfl) rfl #[.pointer (some ⟨gb784,0,none⟩)] rfl (by (try simp only [List.map_toArray,List.map_cons,List.map_nil]);first|done|rfl|(simp only [List.length_drop,List.length_take];rfl)) ?_;(with_reducible refine (Qc9.calls gb784 l0 0 0 t785 t786 t787 t788 w _ ?side1 ?side2 A2.out).mono ?_);(case side1=>repeat (first|(with_reducible first|exact HI784.out|apply Qa.alloc|apply Qa.drewN|apply Qa.drew|apply Qa.set_1|apply Qa.set_2)|exact HI784.out));(case side2=>repeat (first|(with_reducible first|exact HB.out|apply Qj|apply Qk|apply Q2|refine Qbt ?_ (Qa.ge HI784.out))|exact HB.out));rintro e w5 ⟨rfl,hi,hb,hk⟩;refine ⟨_,rfl,?_⟩;replace HB:=Zk (hb);replace HI784:=Zk (hi);(try clear hb);(try clear hb2);(try clear hk);(try clear hi)))
 (try simp only [Act.put,List.setIfInBounds_toArray,List.set_cons_zero,List.set_cons_succ])
 go_cut [28] (fun v28 wc=> ∃ (kq:Nat) (x28_2:Bool) (x785001_2:Int) (x785002_2:Int),v28= .bool x28_2∧Z0 (Qbs.j0 kq t785 t786 x28_2 l0 x785001_2 x785002_2=some (r1,r2))∧Z0 (kq≤k)∧Z0 (Qa w wc gb784 l0 x785001_2 x785002_2)∧Z0 (Below w.heap.size w wc))
 case first=>
  have H:=HC3.out;clear HC3;obtain ⟨t789,A6,H⟩:=bs H;(try dsimp only at H)
  by_cases c7:t789=true
  ·
   subst c7;rw [if_pos rfl] at H;obtain ⟨⟨t790,t791,t792⟩,A8,H⟩:=bs H;(try dsimp only at H)
   have H':=Zk H;clear H;go_wp2_with (first|((with_reducible refine Qc5 (f:=203) rfl ?_);refine Qd3 (some 23) rfl rfl Tryz.func203 (by kernel_rfl) rfl #[.int .i64 t785, .int .i64 t786] rfl (by (try simp only [List.map_toArray,List.map_cons,List.map_nil]);first|done|rfl|(simp only [List.length_drop,List.length_take];rfl)) ?_;(with_reducible refine (Qcu.calls t785 t786 true _ A6.out).mono ?_);rintro e w' ⟨rfl,⟨nd,rfl⟩⟩;refine ⟨_,rfl,?_⟩)|(go_at_call 161;(with_reducible refine (Qbq.calls gb784 l0 t787 t788 5 t790 t791 t792 w _ ?side1 ?side2 A8.out).mono ?_);(case side1=>repeat (first|(with_reducible first|exact HI784.out|apply Qa.alloc|apply Qa.drewN|apply Qa.drew|apply Qa.set_1|apply Qa.set_2)|exact HI784.out));(case side2=>repeat (first|(with_reducible first|exact HB.out|apply Qj|apply Qk|apply Q2|refine Qbt ?_ (Qa.ge HI784.out))|exact HB.out));rintro e w9 ⟨rfl,hi,hb,hk⟩;replace HB:=Zk (hb);replace HI784:=Zk (hi);(try clear hb);(try clear hb2);(try clear hk);(try clear hi)))
   go_meet
   case rel=>exact ⟨_,(t790),(t791),(t792),(by first|rfl|(simp;done)|(simp [*];done)),H',⟨by first|omega|exact Nat.le_refl _⟩,⟨by repeat (first|(with_reducible first|exact HI784.out|apply Qa.alloc|apply Qa.drewN|apply Qa.drew|apply Qa.set_1|apply Qa.set_2)|exact HI784.out)⟩,⟨(Qa.vB HB)⟩⟩
  ·
   replace c7:=Bool.eq_false_iff.mpr c7;subst c7;rw [if_neg (show ¬ (false=true) by decide)] at H;have H':=Zk H;clear H;go_wp2_with (first|(refine gA (some 23) Tryz.func203 #[.int .i64 t785, .int .i64 t786] ?_;(with_reducible refine (Qcu.calls t785 t786 false _ A6.out).mono ?_);rintro e w' ⟨rfl,⟨nd,rfl⟩⟩;refine ⟨_,rfl,?_⟩))
   go_meet
   case rel=>exact ⟨_,(true),(t787),(t788),(by first|rfl|(simp;done)|(simp [*];done)),H',⟨by first|omega|exact Nat.le_refl _⟩,⟨by repeat (first|(with_reducible first|exact HI784.out|apply Qa.alloc|apply Qa.drewN|apply Qa.drew|apply Qa.set_1|apply Qa.set_2)|exact HI784.out)⟩,⟨(Qa.vB HB)⟩⟩
 case rest=>
  clear HC3
  skip
  obtain ⟨kq,x28_2,x785001_2,x785002_2,rfl,HA,HJ2,HI784,HB⟩:=hcut;cases kq with
  |zero=>exact absurd HA.out (by simp [Qbs.j0])
  |succ kj2=>
   have H:=HA.out;clear HA;simp only [Qbs.j0] at H
   by_cases c10:x28_2=true
   ·
    subst c10;rw [if_pos rfl] at H;obtain ⟨⟨t793,t796,t797⟩,A11,H⟩:=bs H;(try dsimp only at H)
    obtain ⟨⟨t798,t799,t800⟩,A12,H⟩:=bs H;(try dsimp only at H)
    obtain ⟨y801,hy801⟩: ∃ y_:List Int,y_=(([t798,1] :List Int)):=⟨_,rfl⟩
    replace H:(some (t793,y801))=some (r1,r2):=by first|(rw [hy801];with_reducible exact H)|(have H2_:=(Option.bind_some _ _).symm.trans H;rw [hy801];with_reducible exact H2_)|(have H2_:=(Option.bind_some _ _).symm.trans H;with_reducible exact H2_)|with_reducible exact H|(rw [hy801];exact H)|exact H
    have Ny801:=Zk hy801;clear hy801;simp only [Option.some.injEq,Prod.mk.injEq] at H;obtain ⟨rfl,rfl⟩:=H;go_wp2_with (first|((with_reducible refine Qc5 (f:=225) rfl ?_);refine Qd3 (some 30) rfl rfl Tryz.func225 (by kernel_rfl) rfl #[.pointer (some ⟨gb784,0,none⟩)] rfl (by (try simp only [List.map_toArray,List.map_cons,List.map_nil]);first|done|rfl|(simp only [List.length_drop,List.length_take];rfl)) ?_;(with_reducible refine (Q5.calls kj2 gb784 l0 x785001_2 x785002_2 t793 t796 t797 w _ ?side1 ?side2 A11.out).mono ?_);(case side1=>repeat (first|(with_reducible first|exact HI784.out|apply Qa.alloc|apply Qa.drewN|apply Qa.drew|apply Qa.set_1|apply Qa.set_2)|exact HI784.out));(case side2=>repeat (first|(with_reducible first|exact HB.out|apply Qj|apply Qk|apply Q2|refine Qbt ?_ (Qa.ge HI784.out))|exact HB.out));rintro e w13 ⟨v794,rfl,ho0,hi,hb,hk⟩;refine ⟨_,rfl,?_⟩;have HO795:=Zk (Kd.R_lower ho0 (Qh (by repeat (first|(with_reducible first|exact HB.out|apply Qj|apply Qk|apply Q2|refine Qbt ?_ (Qa.ge HI784.out))|exact HB.out))));replace HB:=Zk (hb);replace HI784:=Zk (hi);(try clear hb);(try clear hb2);(try clear hk);(try clear hi);(try clear ho0))|((with_reducible refine Qc5 (f:=162) rfl ?_);refine Qd3 (some 32) rfl rfl Tryz.func162 (by kernel_rfl) rfl #[.pointer (some ⟨gb784,0,none⟩), .int .i64 4] rfl (by (try simp only [List.map_toArray,List.map_cons,List.map_nil]);first|done|rfl|(simp only [List.length_drop,List.length_take];rfl)) ?_;(with_reducible refine (Qn.calls gb784 l0 t796 t797 4 t798 t799 t800 w _ ?side1 ?side2 A12.out).mono ?_);(case side1=>repeat (first|(with_reducible first|exact HI784.out|apply Qa.alloc|apply Qa.drewN|apply Qa.drew|apply Qa.set_1|apply Qa.set_2)|exact HI784.out));(case side2=>repeat (first|(with_reducible first|exact HB.out|apply Qj|apply Qk|apply Q2|refine Qbt ?_ (Qa.ge HI784.out))|exact HB.out));rintro e w14 ⟨rfl,hi,hb,hk⟩;refine ⟨_,rfl,?_⟩;replace HO795:=Zk (Kd.R_mono (Kd.R_keep (Qa.apart (show Qa w _ gb784 l0 t796 t797 from by repeat (first|(with_reducible first|exact HI784.out|apply Qa.alloc|apply Qa.drewN|apply Qa.drew|apply Qa.set_1|apply Qa.set_2)|exact HI784.out)) (by (with_reducible repeat (first|apply Kd.R_alloc|apply Kd.R_drewN|apply Kd.R_drew));exact HO795.out) (by decide)) hk (fun _ h=>h.2)) (fun _ h=>h.1));replace HB:=Zk (hb);replace HI784:=Zk (hi);(try clear hb);(try clear hb2);(try clear hk);(try clear hi))|((with_reducible refine Qu (N:=33) rfl ?_);refine Kd.R_lit (Kd.int .i64) _ 3 ?hg (N:=33) ?hd (xs:=([t798,1] :List Int)) (inner:= [.int .i64 t798, .int .i64 1]) (ok:=fun _=>True) (okp:=fun _=>True) ?hr ?hp (fun _ hk=>hk) trivial (Below.refl _ _) (Nat.le_refl _) (by simp) ?_;(case hd=>rfl);(case hg=>rfl);(case hr=>first|(go_simp;done)|(go_simp;rfl));(case hp=>exact (Reps.one (show Kd.M (Kd.int .i64) _ _ _ t798 [.int .i64 t798] from rfl) (Reps.one (show Kd.M (Kd.int .i64) _ _ _ 1 [.int .i64 1] from rfl) (Reps.none _ _))));intro v802 w15 ho16 hb hg_ hnew_;clear hg_ hnew_;(first|rw [←Ny801.out] at ho16|(simp only [Int.reduceToNat] at ho16;rw [←Ny801.out] at ho16));have HO803:=Zk (Kd.R_lower (Kd.R_new' ho16 (Kd.R_lt (by (with_reducible repeat (first|apply Kd.R_alloc|apply Kd.R_drewN|apply Kd.R_drew));exact HO795.out))) (Qh (by repeat (first|(with_reducible first|exact HB.out|apply Qj|apply Qk|apply Q2|refine Qbt ?_ (Qa.ge HI784.out))|exact HB.out))));replace HO795:=Zk (Kd.R_elder' (by (with_reducible repeat (first|apply Kd.R_alloc|apply Kd.R_drewN|apply Kd.R_drew));exact HO795.out) (Kd.R_base ho16) hb);replace HB:=Zk (Qb (by repeat (first|(with_reducible first|exact HB.out|apply Qj|apply Qk|apply Q2|refine Qbt ?_ (Qa.ge HI784.out))|exact HB.out)) hb);replace HI784:=Zk (Qa.below (by repeat (first|(with_reducible first|exact HI784.out|apply Qa.alloc|apply Qa.drewN|apply Qa.drew|apply Qa.set_1|apply Qa.set_2)|exact HI784.out)) hb);clear hb ho16))
    go_ret2
    exact ⟨_,_,by first|rfl|(simp [Qe,Qf] <;>rfl)|(simp [*,Qe,Qf] <;>rfl),Kd.R_mono (uR HO795) (fun _ hk=>hk.2),Kd.R_mono (uR HO803) (fun _ hk=>hk.2),(Qa.vB HB)⟩
   ·
    replace c10:=Bool.eq_false_iff.mpr c10;subst c10;rw [if_neg (show ¬ (false=true) by decide)] at H;obtain ⟨⟨t804,t805⟩,A17,H⟩:=bs H;(try dsimp only at H)
    obtain ⟨⟨t808,t809⟩,A18,H⟩:=bs H;(try dsimp only at H)
    obtain ⟨⟨t812,t813⟩,A19,H⟩:=bs H;(try dsimp only at H)
    obtain ⟨⟨t816,t817,t818⟩,A20,H⟩:=bs H;(try dsimp only at H)
    by_cases c21:t816=true
    ·
     subst c21;rw [if_pos rfl] at H;obtain ⟨⟨t819,t820,t821⟩,A22,H⟩:=bs H;(try dsimp only at H)
     by_cases c23:t812.length<17592186044416
     ·
      rw [if_pos c23] at H;have LMc23:=Zk c23;clear c23;obtain ⟨y822,hy822⟩: ∃ y_:List Int,y_=(t812++ [wrap64 (1+t819)]):=⟨_,rfl⟩
      replace H:(some (t808,y822))=some (r1,r2):=by first|(rw [hy822];with_reducible exact H)|(have H2_:=(Option.bind_some _ _).symm.trans H;rw [hy822];with_reducible exact H2_)|(have H2_:=(Option.bind_some _ _).symm.trans H;with_reducible exact H2_)|with_reducible exact H|(rw [hy822];exact H)|exact H
      have Ny822:=Zk hy822;clear hy822;simp only [Option.some.injEq,Prod.mk.injEq] at H;obtain ⟨rfl,rfl⟩:=H;go_wp2_with (first|((with_reducible refine Qc5 (f:=61) rfl ?_);refine Qd3 (some 37) rfl rfl Tryz.func61 (by kernel_rfl) rfl #[.int .i64 t785, .int .i64 t786] rfl (by (try simp only [List.map_toArray,List.map_cons,List.map_nil]);first|done|rfl|(simp only [List.length_drop,List.length_take];rfl)) ?_;(with_reducible refine (Qdb.calls kj2 t785 t786 t804 t805 _ A17.out).mono ?_);rintro e w24 ⟨v806,rfl,ho0,hb⟩;refine ⟨_,rfl,?_⟩;have HO807:=Zk (Kd.R_lower ho0 (Qh (by repeat (first|(with_reducible first|exact HB.out|apply Qj|apply Qk|apply Q2|refine Qbt ?_ (Qa.ge HI784.out))|exact HB.out))));replace HB:=Zk (Qb (by repeat (first|(with_reducible first|exact HB.out|apply Qj|apply Qk|apply Q2|refine Qbt ?_ (Qa.ge HI784.out))|exact HB.out)) hb);replace HI784:=Zk (Qa.below (by repeat (first|(with_reducible first|exact HI784.out|apply Qa.alloc|apply Qa.drewN|apply Qa.drew|apply Qa.set_1|apply Qa.set_2)|exact HI784.out)) hb);(try clear hb);(try clear hb2);(try clear hk);(try clear hi);(try clear ho0);obtain ⟨Ao25,co25,eo25⟩:=Kd.R_slice HO807.out;subst eo25)|((with_reducible refine Qc5 (f:=71) rfl ?_);refine Qd3 (some 45) rfl rfl Tryz.func71 (by kernel_rfl) rfl #[.slice Ao25 t804.length co25, .int .i64 (wrap64 (t785+t786))] rfl (by (try simp only [List.map_toArray,List.map_cons,List.map_nil]);first|done|rfl|(simp only [List.length_drop,List.length_take];rfl)) ?_;(with_reducible refine (Qv.calls kj2 _ _ t804 (wrap64 (t785+t786)) t808 t809 _ ?side1 ?side2 A18.out).mono ?_);(case side1=>repeat (first|exact (Kd.R_reads' HO807.out).2.2|(with_reducible refine Kd.C_alloc ?_ _)|(with_reducible refine Kd.C_drewN ?_ _)|(with_reducible refine Kd.C_drew ?_)));(case side2=>exact (Kd.R_reads' HO807.out).2.1);rintro e w26 ⟨v810,rfl,ho0,hb⟩;refine ⟨_,rfl,?_⟩;have HO811:=Zk (Kd.R_lower (Kd.R_new' ho0 (Kd.R_lt (by (with_reducible repeat (first|apply Kd.R_alloc|apply Kd.R_drewN|apply Kd.R_drew));exact HO807.out))) (Qh (by repeat (first|(with_reducible first|exact HB.out|apply Qj|apply Qk|apply Q2|refine Qbt ?_ (Qa.ge HI784.out))|exact HB.out))));replace HO807:=Zk (Kd.R_elder' (by (with_reducible repeat (first|apply Kd.R_alloc|apply Kd.R_drewN|apply Kd.R_drew));exact HO807.out) (Kd.R_base ho0) hb);replace HB:=Zk (Qb (by repeat (first|(with_reducible first|exact HB.out|apply Qj|apply Qk|apply Q2|refine Qbt ?_ (Qa.ge HI784.out))|exact HB.out)) hb);replace HI784:=Zk (Qa.below (by repeat (first|(with_reducible first|exact HI784.out|apply Qa.alloc|apply Qa.drewN|apply Qa.drew|apply Qa.set_1|apply Qa.set_2)|exact HI784.out)) hb);(try clear hb);(try clear hb2);(try clear hk);(try clear hi);(try clear ho0))|((with_reducible refine Qc5 (f:=63) rfl ?_);refine Qd3 (some 51) rfl rfl Tryz.func63 (by kernel_rfl) rfl #[.int .i64 t785, .int .i64 t786] rfl (by (try simp only [List.map_toArray,List.map_cons,List.map_nil]);first|done|rfl|(simp only [List.length_drop,List.length_take];rfl)) ?_;(with_reducible refine (Q3.calls kj2 t785 t786 t812 t813 _ A19.out).mono ?_);rintro e w27 ⟨v814,rfl,ho0,hb⟩;refine ⟨_,rfl,?_⟩;have HO815:=Zk (Kd.R_lower (Kd.R_new' (Kd.R_new' ho0 (Kd.R_lt (by (with_reducible repeat (first|apply Kd.R_alloc|apply Kd.R_drewN|apply Kd.R_drew));exact HO807.out))) (Kd.R_lt (by (with_reducible repeat (first|apply Kd.R_alloc|apply Kd.R_drewN|apply Kd.R_drew));exact HO811.out))) (Qh (by repeat (first|(with_reducible first|exact HB.out|apply Qj|apply Qk|apply Q2|refine Qbt ?_ (Qa.ge HI784.out))|exact HB.out))));replace HO807:=Zk (Kd.R_elder' (by (with_reducible repeat (first|apply Kd.R_alloc|apply Kd.R_drewN|apply Kd.R_drew));exact HO807.out) (Kd.R_base ho0) hb);replace HO811:=Zk (Kd.R_elder' (by (with_reducible repeat (first|apply Kd.R_alloc|apply Kd.R_drewN|apply Kd.R_drew));exact HO811.out) (Kd.R_base ho0) hb);replace HB:=Zk (Qb (by repeat (first|(with_reducible first|exact HB.out|apply Qj|apply Qk|apply Q2|refine Qbt ?_ (Qa.ge HI784.out))|exact HB.out)) hb);replace HI784:=Zk (Qa.below (by repeat (first|(with_reducible first|exact HI784.out|apply Qa.alloc|apply Qa.drewN|apply Qa.drew|apply Qa.set_1|apply Qa.set_2)|exact HI784.out)) hb);(try clear hb);(try clear hb2);(try clear hk);(try clear hi);(try clear ho0))|((with_reducible refine Qc5 (f:=161) rfl ?_);refine Qd3 (some 55) rfl rfl Tryz.func161 (by kernel_rfl) rfl #[.pointer (some ⟨gb784,0,none⟩), .int .i64 4] rfl (by (try simp only [List.map_toArray,List.map_cons,List.map_nil]);first|done|rfl|(simp only [List.length_drop,List.length_take];rfl)) ?_;(with_reducible refine (Qbq.calls gb784 l0 x785001_2 x785002_2 4 true t817 t818 w _ ?side1 ?side2 A20.out).mono ?_);(case side1=>repeat (first|(with_reducible first|exact HI784.out|apply Qa.alloc|apply Qa.drewN|apply Qa.drew|apply Qa.set_1|apply Qa.set_2)|exact HI784.out));(case side2=>repeat (first|(with_reducible first|exact HB.out|apply Qj|apply Qk|apply Q2|refine Qbt ?_ (Qa.ge HI784.out))|exact HB.out));rintro e w28 ⟨rfl,hi,hb,hk⟩;refine ⟨_,rfl,?_⟩;replace HO807:=Zk (Kd.R_mono (Kd.R_keep (Qa.apart (show Qa w _ gb784 l0 x785001_2 x785002_2 from by repeat (first|(with_reducible first|exact HI784.out|apply Qa.alloc|apply Qa.drewN|apply Qa.drew|apply Qa.set_1|apply Qa.set_2)|exact HI784.out)) (by (with_reducible repeat (first|apply Kd.R_alloc|apply Kd.R_drewN|apply Kd.R_drew));exact HO807.out) (by decide)) hk (fun _ h=>h.2)) (fun _ h=>h.1));replace HO811:=Zk (Kd.R_mono (Kd.R_keep (Qa.apart (show Qa w _ gb784 l0 x785001_2 x785002_2 from by repeat (first|(with_reducible first|exact HI784.out|apply Qa.alloc|apply Qa.drewN|apply Qa.drew|apply Qa.set_1|apply Qa.set_2)|exact HI784.out)) (by (with_reducible repeat (first|apply Kd.R_alloc|apply Kd.R_drewN|apply Kd.R_drew));exact HO811.out) (by decide)) hk (fun _ h=>h.2)) (fun _ h=>h.1));replace HO815:=Zk (Kd.R_mono (Kd.R_keep (Qa.apart (show Qa w _ gb784 l0 x785001_2 x785002_2 from by repeat (first|(with_reducible first|exact HI784.out|apply Qa.alloc|apply Qa.drewN|apply Qa.drew|apply Qa.set_1|apply Qa.set_2)|exact HI784.out)) (by (with_reducible repeat (first|apply Kd.R_alloc|apply Kd.R_drewN|apply Kd.R_drew));exact HO815.out) (by decide)) hk (fun _ h=>h.2)) (fun _ h=>h.1));replace HB:=Zk (hb);replace HI784:=Zk (hi);(try clear hb);(try clear hb2);(try clear hk);(try clear hi))|((with_reducible refine Qc5 (f:=162) rfl ?_);refine Qd3 (some 58) rfl rfl Tryz.func162 (by kernel_rfl) rfl #[.pointer (some ⟨gb784,0,none⟩), .int .i64 3] rfl (by (try simp only [List.map_toArray,List.map_cons,List.map_nil]);first|done|rfl|(simp only [List.length_drop,List.length_take];rfl)) ?_;(with_reducible refine (Qn.calls gb784 l0 t817 t818 3 t819 t820 t821 w _ ?side1 ?side2 A22.out).mono ?_);(case side1=>repeat (first|(with_reducible first|exact HI784.out|apply Qa.alloc|apply Qa.drewN|apply Qa.drew|apply Qa.set_1|apply Qa.set_2)|exact HI784.out));(case side2=>repeat (first|(with_reducible first|exact HB.out|apply Qj|apply Qk|apply Q2|refine Qbt ?_ (Qa.ge HI784.out))|exact HB.out));rintro e w29 ⟨rfl,hi,hb,hk⟩;refine ⟨_,rfl,?_⟩;replace HO807:=Zk (Kd.R_mono (Kd.R_keep (Qa.apart (show Qa w _ gb784 l0 t817 t818 from by repeat (first|(with_reducible first|exact HI784.out|apply Qa.alloc|apply Qa.drewN|apply Qa.drew|apply Qa.set_1|apply Qa.set_2)|exact HI784.out)) (by (with_reducible repeat (first|apply Kd.R_alloc|apply Kd.R_drewN|apply Kd.R_drew));exact HO807.out) (by decide)) hk (fun _ h=>h.2)) (fun _ h=>h.1));replace HO811:=Zk (Kd.R_mono (Kd.R_keep (Qa.apart (show Qa w _ gb784 l0 t817 t818 from by repeat (first|(with_reducible first|exact HI784.out|apply Qa.alloc|apply Qa.drewN|apply Qa.drew|apply Qa.set_1|apply Qa.set_2)|exact HI784.out)) (by (with_reducible repeat (first|apply Kd.R_alloc|apply Kd.R_drewN|apply Kd.R_drew));exact HO811.out) (by decide)) hk (fun _ h=>h.2)) (fun _ h=>h.1));replace HO815:=Zk (Kd.R_mono (Kd.R_keep (Qa.apart (show Qa w _ gb784 l0 t817 t818 from by repeat (first|(with_reducible first|exact HI784.out|apply Qa.alloc|apply Qa.drewN|apply Qa.drew|apply Qa.set_1|apply Qa.set_2)|exact HI784.out)) (by (with_reducible repeat (first|apply Kd.R_alloc|apply Kd.R_drewN|apply Kd.R_drew));exact HO815.out) (by decide)) hk (fun _ h=>h.2)) (fun _ h=>h.1));replace HB:=Zk (hb);replace HI784:=Zk (hi);(try clear hb);(try clear hb2);(try clear hk);(try clear hi))|((with_reducible refine Qb1 (b:= .append) (xs:= #[.tmp 56, .tmp 60]) rfl ?_);at_builtin;refine Kd.R_append (Kd.int .i64) (w0:=w) w.heap.size rfl (.tmp 56) (.tmp 60) 24 3 (.int .i64 0) 8 rfl Tryz.underlying24 Qdq rfl (by decide) (by omega) v814 t812 (wrap64 (1+t819)) [.int .i64 (wrap64 (1+t819))] (fun k_=>some k_≠(.slice Ao25 t804.length co25:Value).ownBlock∧some k_≠(v810:Value).ownBlock) (fun _=>False) rfl rfl ?aP (fun _ hk=>hk.elim) ?aF ?aO ?aB ?aS ?aL ?_;(case aP=>exact rfl);(case aB=>exact (by repeat (first|(with_reducible first|exact HB.out|apply Qj|apply Qk|apply Q2|refine Qbt ?_ (Qa.ge HI784.out))|exact HB.out)));(case aF=>exact (fun k_ hk=>⟨Kd.fresh' (Kd.R_lt (by (with_reducible repeat (first|apply Kd.R_alloc|apply Kd.R_drewN|apply Kd.R_drew));exact HO807.out)) k_ hk,Kd.fresh' (Kd.R_lt (by (with_reducible repeat (first|apply Kd.R_alloc|apply Kd.R_drewN|apply Kd.R_drew));exact HO811.out)) k_ hk⟩));(case aO=>exact (by (with_reducible repeat (first|apply Kd.R_alloc|apply Kd.R_drewN|apply Kd.R_drew));exact Kd.R_mono HO815.out (fun _ hk=>⟨hk.1.2,hk.2⟩)));(case aS=>exact (Qh (by repeat (first|(with_reducible first|exact HB.out|apply Qj|apply Qk|apply Q2|refine Qbt ?_ (Qa.ge HI784.out))|exact HB.out))));(case aL=>have:=LMc23.out;omega);intro v823 w30 ho hb hg hat;rw [←Ny822.out] at ho;replace HI784:=Zk (Qa.grown (by repeat (first|(with_reducible first|exact HI784.out|apply Qa.alloc|apply Qa.drewN|apply Qa.drew|apply Qa.set_1|apply Qa.set_2)|exact HI784.out)) hg (Qa.own_ne HI784.out HO815.out (by decide)));replace HO807:=Zk (Kd.R_after (ok:=(fun k_=>some k_≠(v810:Value).ownBlock)) (by (with_reducible repeat (first|apply Kd.R_alloc|apply Kd.R_drewN|apply Kd.R_drew));exact Kd.R_mono HO807.out (fun _ hk=>⟨hk.1.2,hk.2⟩)) hg hat);replace HO811:=Zk (Kd.R_after (ok:=(fun k_=>some k_≠(.slice Ao25 t804.length co25:Value).ownBlock)) (by (with_reducible repeat (first|apply Kd.R_alloc|apply Kd.R_drewN|apply Kd.R_drew));exact Kd.R_mono HO811.out (fun _ hk=>⟨hk.1.2,hk.2⟩)) hg hat);replace HB:=Zk (hb);have HO824:=Zk (ho);clear HO815;clear ho hb hg hat))
      go_ret2
      exact ⟨_,_,by first|rfl|(simp [Qe,Qf] <;>rfl)|(simp [*,Qe,Qf] <;>rfl),Kd.R_mono (uR HO811) (fun _ hk=>hk.2),Kd.R_mono (uR HO824) (fun _ hk=>hk.2),(Qa.vB HB)⟩
     ·
      rw [if_neg c23] at H;exact absurd H (by simp)
    ·
     replace c21:=Bool.eq_false_iff.mpr c21;subst c21;rw [if_neg (show ¬ (false=true) by decide)] at H;simp only [Option.some.injEq,Prod.mk.injEq] at H;obtain ⟨rfl,rfl⟩:=H;go_wp2_with (first|((with_reducible refine Qc5 (f:=61) rfl ?_);refine Qd3 (some 37) rfl rfl Tryz.func61 (by kernel_rfl) rfl #[.int .i64 t785, .int .i64 t786] rfl (by (try simp only [List.map_toArray,List.map_cons,List.map_nil]);first|done|rfl|(simp only [List.length_drop,List.length_take];rfl)) ?_;(with_reducible refine (Qdb.calls kj2 t785 t786 t804 t805 _ A17.out).mono ?_);rintro e w31 ⟨v806,rfl,ho0,hb⟩;refine ⟨_,rfl,?_⟩;have HO807:=Zk (Kd.R_lower ho0 (Qh (by repeat (first|(with_reducible first|exact HB.out|apply Qj|apply Qk|apply Q2|refine Qbt ?_ (Qa.ge HI784.out))|exact HB.out))));replace HB:=Zk (Qb (by repeat (first|(with_reducible first|exact HB.out|apply Qj|apply Qk|apply Q2|refine Qbt ?_ (Qa.ge HI784.out))|exact HB.out)) hb);replace HI784:=Zk (Qa.below (by repeat (first|(with_reducible first|exact HI784.out|apply Qa.alloc|apply Qa.drewN|apply Qa.drew|apply Qa.set_1|apply Qa.set_2)|exact HI784.out)) hb);(try clear hb);(try clear hb2);(try clear hk);(try clear hi);(try clear ho0);obtain ⟨Ao32,co32,eo32⟩:=Kd.R_slice HO807.out;subst eo32)|((with_reducible refine Qc5 (f:=71) rfl ?_);refine Qd3 (some 45) rfl rfl Tryz.func71 (by kernel_rfl) rfl #[.slice Ao32 t804.length co32, .int .i64 (wrap64 (t785+t786))] rfl (by (try simp only [List.map_toArray,List.map_cons,List.map_nil]);first|done|rfl|(simp only [List.length_drop,List.length_take];rfl)) ?_;(with_reducible refine (Qv.calls kj2 _ _ t804 (wrap64 (t785+t786)) t808 t809 _ ?side1 ?side2 A18.out).mono ?_);(case side1=>repeat (first|exact (Kd.R_reads' HO807.out).2.2|(with_reducible refine Kd.C_alloc ?_ _)|(with_reducible refine Kd.C_drewN ?_ _)|(with_reducible refine Kd.C_drew ?_)));(case side2=>exact (Kd.R_reads' HO807.out).2.1);rintro e w33 ⟨v810,rfl,ho0,hb⟩;refine ⟨_,rfl,?_⟩;have HO811:=Zk (Kd.R_lower (Kd.R_new' ho0 (Kd.R_lt (by (with_reducible repeat (first|apply Kd.R_alloc|apply Kd.R_drewN|apply Kd.R_drew));exact HO807.out))) (Qh (by repeat (first|(with_reducible first|exact HB.out|apply Qj|apply Qk|apply Q2|refine Qbt ?_ (Qa.ge HI784.out))|exact HB.out))));replace HO807:=Zk (Kd.R_elder' (by (with_reducible repeat (first|apply Kd.R_alloc|apply Kd.R_drewN|apply Kd.R_drew));exact HO807.out) (Kd.R_base ho0) hb);replace HB:=Zk (Qb (by repeat (first|(with_reducible first|exact HB.out|apply Qj|apply Qk|apply Q2|refine Qbt ?_ (Qa.ge HI784.out))|exact HB.out)) hb);replace HI784:=Zk (Qa.below (by repeat (first|(with_reducible first|exact HI784.out|apply Qa.alloc|apply Qa.drewN|apply Qa.drew|apply Qa.set_1|apply Qa.set_2)|exact HI784.out)) hb);(try clear hb);(try clear hb2);(try clear hk);(try clear hi);(try clear ho0))|((with_reducible refine Qc5 (f:=63) rfl ?_);refine Qd3 (some 51) rfl rfl Tryz.func63 (by kernel_rfl) rfl #[.int .i64 t785, .int .i64 t786] rfl (by (try simp only [List.map_toArray,List.map_cons,List.map_nil]);first|done|rfl|(simp only [List.length_drop,List.length_take];rfl)) ?_;(with_reducible refine (Q3.calls kj2 t785 t786 t812 t813 _ A19.out).mono ?_);rintro e w34 ⟨v814,rfl,ho0,hb⟩;refine ⟨_,rfl,?_⟩;have HO815:=Zk (Kd.R_lower (Kd.R_new' (Kd.R_new' ho0 (Kd.R_lt (by (with_reducible repeat (first|apply Kd.R_alloc|apply Kd.R_drewN|apply Kd.R_drew));exact HO807.out))) (Kd.R_lt (by (with_reducible repeat (first|apply Kd.R_alloc|apply Kd.R_drewN|apply Kd.R_drew));exact HO811.out))) (Qh (by repeat (first|(with_reducible first|exact HB.out|apply Qj|apply Qk|apply Q2|refine Qbt ?_ (Qa.ge HI784.out))|exact HB.out))));replace HO807:=Zk (Kd.R_elder' (by (with_reducible repeat (first|apply Kd.R_alloc|apply Kd.R_drewN|apply Kd.R_drew));exact HO807.out) (Kd.R_base ho0) hb);replace HO811:=Zk (Kd.R_elder' (by (with_reducible repeat (first|apply Kd.R_alloc|apply Kd.R_drewN|apply Kd.R_drew));exact HO811.out) (Kd.R_base ho0) hb);replace HB:=Zk (Qb (by repeat (first|(with_reducible first|exact HB.out|apply Qj|apply Qk|apply Q2|refine Qbt ?_ (Qa.ge HI784.out))|exact HB.out)) hb);replace HI784:=Zk (Qa.below (by repeat (first|(with_reducible first|exact HI784.out|apply Qa.alloc|apply Qa.drewN|apply Qa.drew|apply Qa.set_1|apply Qa.set_2)|exact HI784.out)) hb);(try clear hb);(try clear hb2);(try clear hk);(try clear hi);(try clear ho0))|((with_reducible refine Qc5 (f:=161) rfl ?_);refine Qd3 (some 55) rfl rfl Tryz.func161 (by kernel_rfl) rfl #[.pointer (some ⟨gb784,0,none⟩), .int .i64 4] rfl (by (try simp only [List.map_toArray,List.map_cons,List.map_nil]);first|done|rfl|(simp only [List.length_drop,List.length_take];rfl)) ?_;(with_reducible refine (Qbq.calls gb784 l0 x785001_2 x785002_2 4 false t817 t818 w _ ?side1 ?side2 A20.out).mono ?_);(case side1=>repeat (first|(with_reducible first|exact HI784.out|apply Qa.alloc|apply Qa.drewN|apply Qa.drew|apply Qa.set_1|apply Qa.set_2)|exact HI784.out));(case side2=>repeat (first|(with_reducible first|exact HB.out|apply Qj|apply Qk|apply Q2|refine Qbt ?_ (Qa.ge HI784.out))|exact HB.out));rintro e w35 ⟨rfl,hi,hb,hk⟩;refine ⟨_,rfl,?_⟩;replace HO807:=Zk (Kd.R_mono (Kd.R_keep (Qa.apart (show Qa w _ gb784 l0 x785001_2 x785002_2 from by repeat (first|(with_reducible first|exact HI784.out|apply Qa.alloc|apply Qa.drewN|apply Qa.drew|apply Qa.set_1|apply Qa.set_2)|exact HI784.out)) (by (with_reducible repeat (first|apply Kd.R_alloc|apply Kd.R_drewN|apply Kd.R_drew));exact HO807.out) (by decide)) hk (fun _ h=>h.2)) (fun _ h=>h.1));replace HO811:=Zk (Kd.R_mono (Kd.R_keep (Qa.apart (show Qa w _ gb784 l0 x785001_2 x785002_2 from by repeat (first|(with_reducible first|exact HI784.out|apply Qa.alloc|apply Qa.drewN|apply Qa.drew|apply Qa.set_1|apply Qa.set_2)|exact HI784.out)) (by (with_reducible repeat (first|apply Kd.R_alloc|apply Kd.R_drewN|apply Kd.R_drew));exact HO811.out) (by decide)) hk (fun _ h=>h.2)) (fun _ h=>h.1));replace HO815:=Zk (Kd.R_mono (Kd.R_keep (Qa.apart (show Qa w _ gb784 l0 x785001_2 x785002_2 from by repeat (first|(with_reducible first|exact HI784.out|apply Qa.alloc|apply Qa.drewN|apply Qa.drew|apply Qa.set_1|apply Qa.set_2)|exact HI784.out)) (by (with_reducible repeat (first|apply Kd.R_alloc|apply Kd.R_drewN|apply Kd.R_drew));exact HO815.out) (by decide)) hk (fun _ h=>h.2)) (fun _ h=>h.1));replace HB:=Zk (hb);replace HI784:=Zk (hi);(try clear hb);(try clear hb2);(try clear hk);(try clear hi)))
     go_ret2
     exact ⟨_,_,by first|rfl|(simp [Qe,Qf] <;>rfl)|(simp [*,Qe,Qf] <;>rfl),Kd.R_mono (uR HO811) (fun _ hk=>hk.2),Kd.R_mono (uR HO815) (fun _ hk=>hk.2),(Qa.vB HB)⟩
mutual
def Q9.j0:Nat→List Int→List Int→Bool→Option (Bool × Bool)
 |0,_,_,_=>none
 |k+1,x0,x1,x23=>if x23=true then (some (false,false)) else (Q9.l0 k x1 x0 (x0.length:Int) 0)
def Q9.l0:Nat→List Int→List Int→Int→Int→Option (Bool × Bool)
 |0,_,_,_,_=>none
 |k+1,x1,x24,x25,x26=>if x26<x25 then (if 0≤x26 then (if x26<(x24.length:Int) then (Q9.l1 k x1 x26 (rd x24 x26) 0 x24 x25 x26 x1 (x1.length:Int) 0) else (none)) else (none)) else (some (true,true))
def Q9.l1:Nat→List Int→Int→Int→Int→List Int→Int→Int→List Int→Int→Int→Option (Bool × Bool)
 |0,_,_,_,_,_,_,_,_,_,_=>none
 |k+1,x1,x6,x7,x8,x24,x25,x26,x31,x32,x33=>if x33<x32 then (if 0≤x33 then (if x33<(x31.length:Int) then (if (rd x31 x33)=0 then (none) else (if (Int.tmod x6 (rd x31 x33))=0 then (Q9.l1 k x1 x6 x7 (wrap64 (x8+1)) x24 x25 x26 x31 x32 (wrap64 (x33+1))) else (Q9.l1 k x1 x6 x7 x8 x24 x25 x26 x31 x32 (wrap64 (x33+1))))) else (none)) else (none)) else (if x8=x7 then (Q9.l0 k x1 x24 x25 (wrap64 (x26+1))) else (some (false,true)))
end
def Q9.f (k:Nat) (l0:List Int) (l1:List Int):Option (Bool × Bool):=(Qdd.f k l0).bind fun t825=>(if t825=true then (if (l1.length:Int)>1000 then (Q9.j0 k l0 l1 true) else ((Qb3.f k l1 1 60).bind fun t826=>(Q9.j0 k l0 l1 (!t826)))) else (Q9.j0 k l0 l1 true))
theorem Q9.mono_l: ∀ k,(∀ y0 y1 y2,LeO (Q9.j0 k y0 y1 y2) (Q9.j0 (k+1) y0 y1 y2))∧(∀ y0 y1 y2 y3,LeO (Q9.l0 k y0 y1 y2 y3) (Q9.l0 (k+1) y0 y1 y2 y3))∧(∀ y0 y1 y2 y3 y4 y5 y6 y7 y8 y9,LeO (Q9.l1 k y0 y1 y2 y3 y4 y5 y6 y7 y8 y9) (Q9.l1 (k+1) y0 y1 y2 y3 y4 y5 y6 y7 y8 y9))
 |0=>⟨fun _ _ _ r h=>by simp [Q9.j0] at h,fun _ _ _ _ r h=>by simp [Q9.l0] at h,fun _ _ _ _ _ _ _ _ _ _ r h=>by simp [Q9.l1] at h⟩
 |k+1=>by
  obtain ⟨ih0,ih1,ih2⟩:=Q9.mono_l k;refine ⟨?_,?_,?_⟩
  all_goals
   intros
   first|unfold Q9.j0|unfold Q9.l0|unfold Q9.l1
   repeat' (with_reducible first|apply ih0|apply ih1|apply ih2|apply Qb3.mono|apply Qdd.mono|exact LeO.refl _|exact LeO.none _|refine LeO.ite ?_ ?_|refine LeO.bind ?_ (fun _=> ?_))
theorem Q9.mono: ∀ a0 a1 k,LeO (Q9.f k a0 a1) (Q9.f (k+1) a0 a1):=by
 intro a0 a1 k;obtain ⟨ih0,ih1,ih2⟩:=Q9.mono_l k;unfold Q9.f
 repeat' (with_reducible first|apply ih0|apply ih1|apply ih2|apply Qb3.mono|apply Qdd.mono|exact LeO.refl _|exact LeO.none _|refine LeO.ite ?_ ?_|refine LeO.bind ?_ (fun _=> ?_))
set_option maxHeartbeats 8000000 in
set_option maxRecDepth 100000 in
theorem Q9.calls (k:Nat) (A0:Option Addr) (c0:Nat) (l0:List Int) (A1:Option Addr) (c1:Nat) (l1:List Int) (r1:Bool) (r2:Bool) (w:World) (hr0:Kd.C (Kd.int .i64) w A0 l0.length l0) (hc0:l0.length≤c0) (hr1:Kd.C (Kd.int .i64) w A1 l1.length l1) (hc1:l1.length≤c1) (h:Q9.f k l0 l1=some (r1,r2)):
 Calls Tryz.prog 144 #[.slice A0 l0.length c0, .slice A1 l1.length c1] w fun e w'=>e= .returned (.tuple #[.bool r1, .bool r2])∧Drawn0 w w':=by
 have HR0:=Zk hr0;have HC0:=Zk hc0;clear hr0 hc0;have HR1:=Zk hr1;have HC1:=Zk hc1;clear hr1 hc1;have H:((Qdd.f k l0).bind fun t825=>(if t825=true then (if (l1.length:Int)>1000 then (Q9.j0 k l0 l1 true) else ((Qb3.f k l1 1 60).bind fun t826=>(Q9.j0 k l0 l1 (!t826)))) else (Q9.j0 k l0 l1 true)))=some (r1,r2):=h;clear h;have HC3:=Zk H;clear H;go_enter Tryz.func144,Tryz.ntmps144;go_upto_region 1 with (fail)
 go_cut [23] (fun v23 wc=> ∃ (kq:Nat) (x23_2:Bool),v23= .bool x23_2∧Z0 (Q9.j0 kq l0 l1 x23_2=some (r1,r2))∧Z0 (kq≤k)∧Drawn0 w wc)
 case first=>
  have H:=HC3.out;clear HC3;obtain ⟨t825,A4,H⟩:=bs H;(try dsimp only at H)
  by_cases c5:t825=true
  ·
   subst c5;rw [if_pos rfl] at H
   by_cases c6:(l1.length:Int)>1000
   ·
    rw [if_pos c6] at H;have c6b0:=decide_eq_true c6;have c6b1:decide (1000<l1.length)=true:=decide_eq_true (by omega);clear c6
    (first|rw [c6b0] |(simp only [Qcm,Qee];rw [c6b0])|skip)
    have H':=Zk H;clear H;go_wp2_with (first|(refine gA (some 12) Tryz.func226 #[.slice A0 l0.length c0] ?_;(with_reducible refine (Qdd.calls k _ _ l0 true _ (uC HR0) HC0.out A4.out).mono ?_);rintro e w' ⟨rfl,⟨nd,rfl⟩⟩;refine ⟨_,rfl,?_⟩))
    go_meet
    case rel=>exact ⟨_,(true),(by first|rfl|(simp;done)|(simp [*];done)),H',⟨by first|omega|exact Nat.le_refl _⟩,by repeat (first|exact Drawn0.refl _|apply Drawn0.step)⟩
   ·
    rw [if_neg c6] at H;have c6b0:=decide_eq_false c6;have c6b1:decide (1000<l1.length)=false:=decide_eq_false (by omega);clear c6
    (first|rw [c6b0] |(simp only [Qcm,Qee];rw [c6b0])|skip)
    obtain ⟨t826,A7,H⟩:=bs H;(try dsimp only at H)
    have H':=Zk H;clear H;go_wp2_with (first|(refine gA (some 12) Tryz.func226 #[.slice A0 l0.length c0] ?_;(with_reducible refine (Qdd.calls k _ _ l0 true _ (uC HR0) HC0.out A4.out).mono ?_);rintro e w' ⟨rfl,⟨nd,rfl⟩⟩;refine ⟨_,rfl,?_⟩)|(go_at_call 224;(with_reducible refine (Qb3.calls k _ _ l1 1 60 t826 _ (uC HR1) HC1.out A7.out).mono ?_);rintro e w' ⟨rfl,⟨nd,rfl⟩⟩))
    go_meet
    case rel=>exact ⟨_,(!t826),(by first|rfl|(simp;done)|(simp [*];done)),H',⟨by first|omega|exact Nat.le_refl _⟩,by repeat (first|exact Drawn0.refl _|apply Drawn0.step)⟩
  ·
   replace c5:=Bool.eq_false_iff.mpr c5;subst c5;rw [if_neg (show ¬ (false=true) by decide)] at H;have H':=Zk H;clear H;go_wp2_with (first|(refine gA (some 12) Tryz.func226 #[.slice A0 l0.length c0] ?_;(with_reducible refine (Qdd.calls k _ _ l0 false _ (uC HR0) HC0.out A4.out).mono ?_);rintro e w' ⟨rfl,⟨nd,rfl⟩⟩;refine ⟨_,rfl,?_⟩))
   go_meet
   case rel=>exact ⟨_,(true),(by first|rfl|(simp;done)|(simp [*];done)),H',⟨by first|omega|exact Nat.le_refl _⟩,by repeat (first|exact Drawn0.refl _|apply Drawn0.step)⟩
 case rest=>
  clear HC3
  skip
  obtain ⟨kq,x23_2,rfl,HA,HJ2,⟨mc2,rfl⟩⟩:=hcut;cases kq with
  |zero=>exact absurd HA.out (by simp [Q9.j0])
  |succ kj2=>
   have H:=HA.out;clear HA;simp only [Q9.j0] at H
   by_cases c8:x23_2=true
   ·
    subst c8;rw [if_pos rfl] at H;simp only [Option.some.injEq,Prod.mk.injEq] at H;obtain ⟨rfl,rfl⟩:=H;go_wp2
    go_ret2
    exact ⟨by first|rfl|(simp;done)|(simp [*];done),by repeat (first|exact Drawn0.refl _|apply Drawn0.step)⟩
   ·
    replace c8:=Bool.eq_false_iff.mpr c8;subst c8;rw [if_neg (show ¬ (false=true) by decide)] at H;have H':=Zk H;clear H;go_wp2
    go_loopg [26] kj2 (fun kq v26 w'=> ∃ (x26_2:Int),v26= .int .i64 x26_2∧Z0 (Q9.l0 kq l1 l0 (l0.length:Int) x26_2=some (r1,r2))∧Z0 (kq≤kj2)∧Drawn0 w w')
    case atStart=>exact ⟨(0),(by first|rfl|(simp;done)|(simp [*];done)),H',⟨Nat.le_refl _⟩,by repeat (first|exact Drawn0.refl _|apply Drawn0.step)⟩
    case round=>
     clear H'
     skip
     obtain ⟨x26_2,rfl,HA,HK2,⟨m2,rfl⟩⟩:=hrel;cases gk with
     |zero=>exact absurd HA.out (by simp [Q9.l0])
     |succ k2=>
      have H:=HA.out;clear HA;simp only [Q9.l0] at H
      by_cases c9:x26_2<(l0.length:Int)
      ·
       rw [if_pos c9] at H;have c9b0:=decide_eq_true c9;clear c9
       by_cases c10:0≤x26_2
       ·
        rw [if_pos c10] at H;have c10b0:=decide_eq_true c10;clear c10
        by_cases c11:x26_2<(l0.length:Int)
        ·
         rw [if_pos c11] at H;have c11b0:=decide_eq_true c11;clear c11;have H':=Zk H;clear H;have p827:0≤(x26_2:Int):=of_decide_eq_true (by first|(with_reducible assumption)|assumption);have q827:x26_2<(l0.length:Int):=of_decide_eq_true (by first|(with_reducible assumption)|assumption);obtain ⟨ad827,e827,hx827_0⟩:=Kd.at_int HR0.out x26_2 p827 q827;cases e827;replace p827:=eq_true p827;replace q827:=eq_true q827;go_wp2
         go_loopg [8,33] k2 (fun kq v8 v33 w'=> ∃ (x8_3:Int) (x33_3:Int),v8= .int .i64 x8_3∧v33= .int .i64 x33_3∧Z0 (Q9.l1 kq l1 x26_2 (rd l0 x26_2) x8_3 l0 (l0.length:Int) x26_2 l1 (l1.length:Int) x33_3=some (r1,r2))∧Z0 (kq≤k2)∧Drawn0 w w')
         case atStart=>exact ⟨(0),(0),(by first|rfl|(simp;done)|(simp [*];done)),(by first|rfl|(simp;done)|(simp [*];done)),H',⟨Nat.le_refl _⟩,by repeat (first|exact Drawn0.refl _|apply Drawn0.step)⟩
         case round=>
          clear H'
          try clear c9b0 c10b0 c11b0 hx827_0 p827 q827
          obtain ⟨x8_3,x33_3,rfl,rfl,HA,HK3,⟨m3,rfl⟩⟩:=hrel;cases gk with
          |zero=>exact absurd HA.out (by simp [Q9.l1])
          |succ k3=>
           have H:=HA.out;clear HA;simp only [Q9.l1] at H
           by_cases c12:x33_3<(l1.length:Int)
           ·
            rw [if_pos c12] at H;have c12b0:=decide_eq_true c12;clear c12
            by_cases c13:0≤x33_3
            ·
             rw [if_pos c13] at H;have c13b0:=decide_eq_true c13;clear c13
             by_cases c14:x33_3<(l1.length:Int)
             ·
              rw [if_pos c14] at H;have c14b0:=decide_eq_true c14;clear c14
              by_cases c15:(rd l1 x33_3)=0
              ·
               rw [if_pos c15] at H;exact absurd H (by simp)
              ·
               rw [if_neg c15] at H;have c15b0:((rd l1 x33_3)==0)=false:=beq_eq_false_iff_ne.mpr c15;have c15b1:((rd l1 x33_3) !=0)=true:=bne_iff_ne.mpr c15
               by_cases c16:(Int.tmod x26_2 (rd l1 x33_3))=0
               ·
                rw [if_pos c16] at H;have c16b0:((Int.tmod x26_2 (rd l1 x33_3))==0)=true:=beq_iff_eq.mpr c16;have c16b1:((Int.tmod x26_2 (rd l1 x33_3)) !=0)=false:=bne_eq_false_iff_eq.mpr c16;clear c16;have H':=Zk H;clear H;have p828:0≤(x33_3:Int):=of_decide_eq_true (by first|(with_reducible assumption)|assumption);have q828:x33_3<(l1.length:Int):=of_decide_eq_true (by first|(with_reducible assumption)|assumption);obtain ⟨ad828,e828,hx828_0⟩:=Kd.at_int HR1.out x33_3 p828 q828;cases e828;replace p828:=eq_true p828;replace q828:=eq_true q828;go_wp2;go_roundg k3
                case measure=>have:=HJ2.out;have:=HK2.out;have:=HK3.out;omega
                case rel=>exact ⟨(wrap64 (x8_3+1)),(wrap64 (x33_3+1)),(by first|rfl|(simp;done)|(simp [*];done)),(by first|rfl|(simp;done)|(simp [*];done)),H',⟨by have:=HJ2.out;have:=HK2.out;have:=HK3.out;omega⟩,by repeat (first|exact Drawn0.refl _|apply Drawn0.step)⟩
               ·
                rw [if_neg c16] at H;have c16b0:((Int.tmod x26_2 (rd l1 x33_3))==0)=false:=beq_eq_false_iff_ne.mpr c16;have c16b1:((Int.tmod x26_2 (rd l1 x33_3)) !=0)=true:=bne_iff_ne.mpr c16;have H':=Zk H;clear H;have p828:0≤(x33_3:Int):=of_decide_eq_true (by first|(with_reducible assumption)|assumption);have q828:x33_3<(l1.length:Int):=of_decide_eq_true (by first|(with_reducible assumption)|assumption);obtain ⟨ad828,e828,hx828_0⟩:=Kd.at_int HR1.out x33_3 p828 q828;cases e828;replace p828:=eq_true p828;replace q828:=eq_true q828;go_wp2;go_roundg k3
                case measure=>have:=HJ2.out;have:=HK2.out;have:=HK3.out;omega
                case rel=>exact ⟨(x8_3),(wrap64 (x33_3+1)),(by first|rfl|(simp;done)|(simp [*];done)),(by first|rfl|(simp;done)|(simp [*];done)),H',⟨by have:=HJ2.out;have:=HK2.out;have:=HK3.out;omega⟩,by repeat (first|exact Drawn0.refl _|apply Drawn0.step)⟩
             ·
              rw [if_neg c14] at H;exact absurd H (by simp)
            ·
             rw [if_neg c13] at H;exact absurd H (by simp)
           ·
            rw [if_neg c12] at H;have c12b0:=decide_eq_false c12;clear c12
            by_cases c17:x8_3=(rd l0 x26_2)
            ·
             rw [if_pos c17] at H;have c17b0:(x8_3==(rd l0 x26_2))=true:=beq_iff_eq.mpr c17;have c17b1:(x8_3 !=(rd l0 x26_2))=false:=bne_eq_false_iff_eq.mpr c17;clear c17;have H':=Zk H;clear H;go_wp2;go_roundg k3
             case measure=>have:=HJ2.out;have:=HK2.out;have:=HK3.out;omega
             case rel=>exact ⟨(wrap64 (x26_2+1)),(by first|rfl|(simp;done)|(simp [*];done)),H',⟨by have:=HJ2.out;have:=HK2.out;have:=HK3.out;omega⟩,by repeat (first|exact Drawn0.refl _|apply Drawn0.step)⟩
            ·
             rw [if_neg c17] at H;have c17b0:(x8_3==(rd l0 x26_2))=false:=beq_eq_false_iff_ne.mpr c17;have c17b1:(x8_3 !=(rd l0 x26_2))=true:=bne_iff_ne.mpr c17;simp only [Option.some.injEq,Prod.mk.injEq] at H;obtain ⟨rfl,rfl⟩:=H;go_wp2
             go_ret2
             exact ⟨by first|rfl|(simp;done)|(simp [*];done),by repeat (first|exact Drawn0.refl _|apply Drawn0.step)⟩
        ·
         rw [if_neg c11] at H;exact absurd H (by simp)
       ·
        rw [if_neg c10] at H;exact absurd H (by simp)
      ·
       rw [if_neg c9] at H;have c9b0:=decide_eq_false c9;clear c9;simp only [Option.some.injEq,Prod.mk.injEq] at H;obtain ⟨rfl,rfl⟩:=H;go_wp2
       go_ret2
       exact ⟨by first|rfl|(simp;done)|(simp [*];done),by repeat (first|exact Drawn0.refl _|apply Drawn0.step)⟩
def Qep.f (l0:List Int):Option (Int × Int):=(Qdl.f l0 0 0).bind fun bt830=>((Qdl.f l0 bt830.2.1 bt830.2.2).bind fun bt833=>(some (bt830.1,bt833.1)))
set_option maxHeartbeats 8000000 in
set_option maxRecDepth 100000 in
theorem Qep.calls (A0:Option Addr) (c0:Nat) (l0:List Int) (r1:Int) (r2:Int) (w:World) (hr0:Kd.C (Kd.int .u8) w A0 l0.length l0) (hc0:l0.length≤c0) (h:Qep.f l0=some (r1,r2)):
 Calls Tryz.prog 145 #[.slice A0 l0.length c0] w fun e w'=>e= .returned (.tuple #[.int .i64 r1, .int .i64 r2])∧Below w.heap.size w w':=by
 have hu94:=Tryz.underlying94;have HR0:=Zk hr0;have HC0:=Zk hc0;clear hr0 hc0;have HB:=Zk (Below.refl w.heap.size w);have H:((Qdl.f l0 0 0).bind fun bt830=>((Qdl.f l0 bt830.2.1 bt830.2.2).bind fun bt833=>(some (bt830.1,bt833.1))))=some (r1,r2):=h;clear h;obtain ⟨⟨t830,t831,t832⟩,A2,H⟩:=bs H;(try dsimp only at H)
 obtain ⟨⟨t833,t834,t835⟩,A3,H⟩:=bs H;(try dsimp only at H)
 simp only [Option.some.injEq,Prod.mk.injEq] at H;obtain ⟨rfl,rfl⟩:=H;go_enter Tryz.func145,Tryz.ntmps145;go_wp2_with (first|((with_reducible refine Qu (N:=7) rfl ?_);refine Qfh ?hg (N:=7) ?hd (cs:= #[.slice A0 l0.length c0, .int .i64 0, .int .u64 0]) (t:=94) ?hr ?_;(case hd=>rfl);(case hg=>rfl);(case hr=>first|(go_simp;done)|(go_simp;rfl));intro gb829 hg w4 hbox hb;have HI829:=Zk ((⟨_,_,hbox,(by rw [hg];exact (Qh (by repeat (first|(with_reducible first|exact HB.out|apply Qj|apply Qk|apply Q2)|exact HB.out))):w.heap.size≤gb829),HR0.out⟩:Qa w _ gb829 l0 0 0));have GW829:=Zk ((by rw [hg];exact (Qh (by repeat (first|(with_reducible first|exact HB.out|apply Qj|apply Qk|apply Q2)|exact HB.out))):w.heap.size≤gb829));have GE829:=GW829;replace HB:=Zk (Qb (by repeat (first|(with_reducible first|exact HB.out|apply Qj|apply Qk|apply Q2)|exact HB.out)) hb);clear hb hbox hg)|((with_reducible refine Qc5 (f:=214) rfl ?_);refine Qd3 (some 9) rfl rfl Tryz.func214 (by kernel_rfl) rfl #[.pointer (some ⟨gb829,0,none⟩)] rfl (by (try simp only [List.map_toArray,List.map_cons,List.map_nil]);first|done|rfl|(simp only [List.length_drop,List.length_take];rfl)) ?_;(with_reducible refine (Qdl.calls gb829 l0 0 0 t830 t831 t832 w _ ?side1 ?side2 A2.out).mono ?_);(case side1=>repeat (first|(with_reducible first|exact HI829.out|apply Qa.alloc|apply Qa.drewN|apply Qa.drew|apply Qa.set_1|apply Qa.set_2)|exact HI829.out));(case side2=>repeat (first|(with_reducible first|exact HB.out|apply Qj|apply Qk|apply Q2|refine Qbt ?_ (Qa.ge HI829.out))|exact HB.out));rintro e w5 ⟨rfl,hi,hb,hk⟩;refine ⟨_,rfl,?_⟩;replace HB:=Zk (hb);replace HI829:=Zk (hi);(try clear hb);(try clear hb2);(try clear hk);(try clear hi))|((with_reducible refine Qc5 (f:=214) rfl ?_);refine Qd3 (some 11) rfl rfl Tryz.func214 (by kernel_rfl) rfl #[.pointer (some ⟨gb829,0,none⟩)] rfl (by (try simp only [List.map_toArray,List.map_cons,List.map_nil]);first|done|rfl|(simp only [List.length_drop,List.length_take];rfl)) ?_;(with_reducible refine (Qdl.calls gb829 l0 t831 t832 t833 t834 t835 w _ ?side1 ?side2 A3.out).mono ?_);(case side1=>repeat (first|(with_reducible first|exact HI829.out|apply Qa.alloc|apply Qa.drewN|apply Qa.drew|apply Qa.set_1|apply Qa.set_2)|exact HI829.out));(case side2=>repeat (first|(with_reducible first|exact HB.out|apply Qj|apply Qk|apply Q2|refine Qbt ?_ (Qa.ge HI829.out))|exact HB.out));rintro e w6 ⟨rfl,hi,hb,hk⟩;refine ⟨_,rfl,?_⟩;replace HB:=Zk (hb);replace HI829:=Zk (hi);(try clear hb);(try clear hb2);(try clear hk);(try clear hi)))
 go_ret2
 exact ⟨by first|rfl|(simp [Qe,Qf] <;>rfl)|(simp [*,Qe,Qf] <;>rfl),(Qa.vB HB)⟩
def Qdx.f (k:Nat) (a0:Int) (a1:Int):Option (Int × Bool):=(Qdp.f a0).bind fun t836=>(if t836=true then ((Qbv.f a1 0 60).bind fun t837=>(if t837=true then ((Qbu.f k a0 a1).bind fun t838=>(some (t838,true))) else (some (0,false)))) else (some (0,false)))
theorem Qdx.mono: ∀ a0 a1 k,LeO (Qdx.f k a0 a1) (Qdx.f (k+1) a0 a1):=by
 intro a0 a1 k;unfold Qdx.f
 repeat' (with_reducible first|apply Qbu.mono|exact LeO.refl _|exact LeO.none _|refine LeO.ite ?_ ?_|refine LeO.bind ?_ (fun _=> ?_))
set_option maxHeartbeats 8000000 in
set_option maxRecDepth 100000 in
theorem Qdx.calls (k:Nat) (a0:Int) (a1:Int) (r1:Int) (r2:Bool) (w:World) (h:Qdx.f k a0 a1=some (r1,r2)):
 Calls Tryz.prog 146 #[.int .i64 a0, .int .i64 a1] w fun e w'=>e= .returned (.tuple #[.int .i64 r1, .bool r2])∧Below w.heap.size w w':=by
 have HB:=Zk (Below.refl w.heap.size w);have H:((Qdp.f a0).bind fun t836=>(if t836=true then ((Qbv.f a1 0 60).bind fun t837=>(if t837=true then ((Qbu.f k a0 a1).bind fun t838=>(some (t838,true))) else (some (0,false)))) else (some (0,false))))=some (r1,r2):=h;clear h;obtain ⟨t836,A3,H⟩:=bs H;(try dsimp only at H)
 by_cases c4:t836=true
 ·
  subst c4;rw [if_pos rfl] at H;obtain ⟨t837,A5,H⟩:=bs H;(try dsimp only at H)
  by_cases c6:t837=true
  ·
   subst c6;rw [if_pos rfl] at H;obtain ⟨t838,A7,H⟩:=bs H;(try dsimp only at H)
   simp only [Option.some.injEq,Prod.mk.injEq] at H;obtain ⟨rfl,rfl⟩:=H;go_enter Tryz.func146,Tryz.ntmps146;go_wp2_with (first|(refine gA (some 7) Tryz.func217 #[.int .i64 a0] ?_;(with_reducible refine (Qdp.calls a0 true _ A3.out).mono ?_);rintro e w' ⟨rfl,⟨nd,rfl⟩⟩;refine ⟨_,rfl,?_⟩)|(go_at_call 159;(with_reducible refine (Qbv.calls a1 0 60 true _ A5.out).mono ?_);rintro e w' ⟨rfl,⟨nd,rfl⟩⟩)|(refine gA (some 16) Tryz.func223 #[.int .i64 a0, .int .i64 a1] ?_;(with_reducible refine (Qbu.calls k a0 a1 t838 _ A7.out).mono ?_);rintro e w8 ⟨rfl,hb⟩;refine ⟨_,rfl,?_⟩;replace HB:=Zk (Qb (uB HB) hb);(try clear hb)))
   go_ret2
   exact ⟨by first|rfl|(simp [Qe,Qf] <;>rfl)|(simp [*,Qe,Qf] <;>rfl),uB HB⟩
  ·
   replace c6:=Bool.eq_false_iff.mpr c6;subst c6;rw [if_neg (show ¬ (false=true) by decide)] at H;simp only [Option.some.injEq,Prod.mk.injEq] at H;obtain ⟨rfl,rfl⟩:=H;go_enter Tryz.func146,Tryz.ntmps146;go_wp2_with (first|(refine gA (some 7) Tryz.func217 #[.int .i64 a0] ?_;(with_reducible refine (Qdp.calls a0 true _ A3.out).mono ?_);rintro e w' ⟨rfl,⟨nd,rfl⟩⟩;refine ⟨_,rfl,?_⟩)|(go_at_call 159;(with_reducible refine (Qbv.calls a1 0 60 false _ A5.out).mono ?_);rintro e w' ⟨rfl,⟨nd,rfl⟩⟩))
   go_ret2
   exact ⟨by first|rfl|(simp [Qe,Qf] <;>rfl)|(simp [*,Qe,Qf] <;>rfl),uB HB⟩
 ·
  replace c4:=Bool.eq_false_iff.mpr c4;subst c4;rw [if_neg (show ¬ (false=true) by decide)] at H;simp only [Option.some.injEq,Prod.mk.injEq] at H;obtain ⟨rfl,rfl⟩:=H;go_enter Tryz.func146,Tryz.ntmps146;go_wp2_with (first|(refine gA (some 7) Tryz.func217 #[.int .i64 a0] ?_;(with_reducible refine (Qdp.calls a0 false _ A3.out).mono ?_);rintro e w' ⟨rfl,⟨nd,rfl⟩⟩;refine ⟨_,rfl,?_⟩))
  go_ret2
  exact ⟨by first|rfl|(simp [Qe,Qf] <;>rfl)|(simp [*,Qe,Qf] <;>rfl),uB HB⟩
end Go.Proofs.YtkgngggppcmpfaaGreat.L
end
