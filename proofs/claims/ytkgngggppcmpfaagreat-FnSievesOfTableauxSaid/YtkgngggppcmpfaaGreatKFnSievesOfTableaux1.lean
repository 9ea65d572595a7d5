/- Laws about the given program: the law FnSievesOfTableaux answers true for every input that its row lets in; no condition is added to the given statement. Contracts of the Go functions that it reaches, and the plain proof over lists. -/
import Derived.Test.YtkgngggppcmpfaaGreatWFnSievesOfTableaux0
import Derived.Test.YtkgngggppcmpfaaGreatKFnSievesOfTableaux0
section
namespace Go.Proofs.YtkgngggppcmpfaaGreat.L
open Go.RowKit Go.Proofs.YtkgngggppcmpfaaGreatW.PrintWords Go.Proofs.YtkgngggppcmpfaaGreatW.PrintLast Go.Proofs.YtkgngggppcmpfaaGreatW.PrintMore Go.Proofs.YtkgngggppcmpfaaGreat.X
attribute [local go_sem] Qy Q0 Qbb Qbc Qp Qq Qz Q1
set_option linter.unusedVariables false
set_option linter.unusedSimpArgs false
mutual
def Qb0.l0:Nat→Int→List Int→List (List Int)→Int→Int→Option (List Int)
 |0,_,_,_,_,_=>none
 |k+1,x3,x4,x18,x19,x20=>if x20<x19 then (if 0≤x20 then (if x20<(x18.length:Int) then (Qb0.l1 k x3 x4 x20 x18 x19 x20 (Qo x18 x20) ((Qo x18 x20).length:Int) 0) else (none)) else (none)) else (some x4)
def Qb0.l1:Nat→Int→List Int→Int→List (List Int)→Int→Int→List Int→Int→Int→Option (List Int)
 |0,_,_,_,_,_,_,_,_,_=>none
 |k+1,x3,x4,x5,x18,x19,x20,x25,x26,x27=>if x27<x26 then (if 0≤x27 then (if x27<(x25.length:Int) then (if 0≤(rd x25 x27) then (if (rd x25 x27)<(x4.length:Int) then (Qb0.l1 k x3 (x4.set ((rd x25 x27):Int).toNat (wrap64 ((wrap64 (x3*x5))+x27))) x5 x18 x19 x20 x25 x26 (wrap64 (x27+1))) else (none)) else (none)) else (none)) else (none)) else (Qb0.l0 k x3 x4 x18 x19 (wrap64 (x20+1)))
end
def Qb0.f (k:Nat) (l0:List (List Int)):Option (List Int):=if 0<(l0.length:Int) then (if 0≤(wrap64 ((l0.length:Int)*((Qo l0 0).length:Int))) then (if (wrap64 ((l0.length:Int)*((Qo l0 0).length:Int)):Int).toNat≤35184372088832 then (Qb0.l0 k ((Qo l0 0).length:Int) (List.replicate (wrap64 ((l0.length:Int)*((Qo l0 0).length:Int)):Int).toNat 0) l0 (l0.length:Int) 0) else (none)) else (none)) else (none)
theorem Qb0.mono_l: ∀ k,(∀ y0 y1 y2 y3 y4,LeO (Qb0.l0 k y0 y1 y2 y3 y4) (Qb0.l0 (k+1) y0 y1 y2 y3 y4))∧(∀ y0 y1 y2 y3 y4 y5 y6 y7 y8,LeO (Qb0.l1 k y0 y1 y2 y3 y4 y5 y6 y7 y8) (Qb0.l1 (k+1) y0 y1 y2 y3 y4 y5 y6 y7 y8))
 |0=>⟨fun _ _ _ _ _ r h=>by simp [Qb0.l0] at h,fun _ _ _ _ _ _ _ _ _ r h=>by simp [Qb0.l1] at h⟩
 |k+1=>by
  obtain ⟨ih0,ih1⟩:=Qb0.mono_l k;refine ⟨?_,?_⟩
  all_goals
   intros
   first|unfold Qb0.l0|unfold Qb0.l1
   repeat' (with_reducible first|apply ih0|apply ih1|exact LeO.refl _|exact LeO.none _|refine LeO.ite ?_ ?_|refine LeO.bind ?_ (fun _=> ?_))
theorem Qb0.mono: ∀ a0 k,LeO (Qb0.f k a0) (Qb0.f (k+1) a0):=by
 intro a0 k;obtain ⟨ih0,ih1⟩:=Qb0.mono_l k;unfold Qb0.f
 repeat' (with_reducible first|apply ih0|apply ih1|exact LeO.refl _|exact LeO.none _|refine LeO.ite ?_ ?_|refine LeO.bind ?_ (fun _=> ?_))
set_option maxHeartbeats 8000000 in
set_option maxRecDepth 100000 in
theorem Qb0.calls (k:Nat) (A0:Option Addr) (c0:Nat) (l0:List (List Int)) (r:List Int) (w:World) (hr0:Kd.C (Kd.slice 3 (Kd.int .i64)) w A0 l0.length l0) (hc0:l0.length≤c0) (h:Qb0.f k l0=some r):
 Calls Tryz.prog 347 #[.slice A0 l0.length c0] w fun e w'=> ∃ v0_:Value,e= .returned (v0_)∧Kd.R (Kd.int .i64) 3 w' w.heap.size (fun _=>True) v0_ r∧Below w.heap.size w w':=by
 have HR0:=Zk hr0;have HC0:=Zk hc0;clear hr0 hc0;have HB:=Zk (Below.refl w.heap.size w);have H:(if 0<(l0.length:Int) then (if 0≤(wrap64 ((l0.length:Int)*((Qo l0 0).length:Int))) then (if (wrap64 ((l0.length:Int)*((Qo l0 0).length:Int)):Int).toNat≤35184372088832 then (Qb0.l0 k ((Qo l0 0).length:Int) (List.replicate (wrap64 ((l0.length:Int)*((Qo l0 0).length:Int)):Int).toNat 0) l0 (l0.length:Int) 0) else (none)) else (none)) else (none))=some r:=h;clear h
 by_cases c2:0<(l0.length:Int)
 ·
  rw [if_pos c2] at H;have c2b0:=decide_eq_true c2;have c2b1:decide (0<l0.length)=true:=decide_eq_true (by omega);clear c2;obtain ⟨ji3,hji3⟩: ∃ j_:Int,(wrap64 ((l0.length:Int)*((Qo l0 0).length:Int)))=j_:=⟨_,rfl⟩
  replace H:(if 0≤(ji3) then (if (ji3:Int).toNat≤35184372088832 then (Qb0.l0 k ((Qo l0 0).length:Int) (List.replicate (ji3:Int).toNat 0) l0 (l0.length:Int) 0) else (none)) else (none))=some r:=by first|(rw [hji3] at H;exact H)|(simp only [hji3] at H ⊢;exact H)
  have hji3w:(IntKind.i64.wrap ((l0.length:Int)*((Qo l0 0).length:Int)))=ji3:=(Qcm _).trans hji3
  by_cases c4:0≤(ji3)
  ·
   rw [if_pos c4] at H;have c4b0:=eq_true c4;have c4b1:=decide_eq_true c4;clear c4
   by_cases c5:(ji3:Int).toNat≤35184372088832
   ·
    rw [if_pos c5] at H;have c5b0:=eq_true c5;have c5b1:=decide_eq_true c5;clear c5;obtain ⟨y132,hy132⟩: ∃ y_:List Int,y_=(List.replicate (ji3:Int).toNat 0):=⟨_,rfl⟩
    replace H:(Qb0.l0 k ((Qo l0 0).length:Int) y132 l0 (l0.length:Int) 0)=some r:=by first|(rw [hy132];with_reducible exact H)|(have H2_:=(Option.bind_some _ _).symm.trans H;rw [hy132];with_reducible exact H2_)|(have H2_:=(Option.bind_some _ _).symm.trans H;with_reducible exact H2_)|with_reducible exact H|(rw [hy132];exact H)|exact H
    have Ny132:=Zk hy132;clear hy132;have H':=Zk H;clear H;have p131:0≤(0:Int):=(by omega)
    have q131:0<(l0.length:Int):=of_decide_eq_true (by first|(with_reducible assumption)|assumption);obtain ⟨ad131,A131_0,c131_0,e131,hx131_0,hl131_0,hi131_0⟩:=Qfg HR0.out 0 p131 q131;cases e131;have qi131:(0<l0.length)=True:=eq_true (by omega)
    (try rw [show ((0:Int)).toNat=0 from rfl] at hx131_0)
    (try rw [Addr.add_zero'] at hx131_0)
    have HR131_0:=Zk hi131_0;have HC131_0:=Zk hl131_0;clear hi131_0 hl131_0;replace p131:=eq_true p131;replace q131:=eq_true q131;go_enter Tryz.func347,Tryz.ntmps347;go_wp2_with (first|((with_reducible refine Qu (N:=17) rfl ?_);refine Kd.R_make (Kd.int .i64) _ 3 rfl (N:=17) rfl 24 _ _ rfl ji3 rfl rfl Tryz.underlying24 (.int .i64 0) 8 Qdq rfl (by decide) (by omega) 0 (ok:=fun _=>True) (okp:=fun _=>True) rfl (fun _ hk=>hk) trivial (of_decide_eq_true (by first|(with_reducible assumption)|assumption)) (Nat.le_trans (Nat.mul_le_mul_right _ (of_decide_eq_true (by first|(with_reducible assumption)|assumption):ji3.toNat≤35184372088832)) (by omega)) (Below.refl _ _) (Nat.le_refl _) ?_;intro v133 w6 ho7 hb hg_ hnew_;clear hg_ hnew_;(first|rw [←Ny132.out] at ho7|(simp only [Int.reduceToNat] at ho7;rw [←Ny132.out] at ho7));have HO134:=Zk (Kd.R_lower ho7 (Qh (uB HB)));replace HB:=Zk (Qb (uB HB) hb);clear hb ho7))
    go_loopg [20] k (fun kq v20 w'=> ∃ (x4_1:List Int) (x20_1:Int),v20= .int .i64 x20_1∧Z0 (Qb0.l0 kq ((Qo l0 0).length:Int) x4_1 l0 (l0.length:Int) x20_1=some r)∧Z0 (kq≤k)∧Z0 (Kd.R (Kd.int .i64) 3 w' w.heap.size (fun _=>True) v133 x4_1)∧Z0 (Below w.heap.size w w'))
    case atStart=>exact ⟨(y132),(0),(by first|rfl|(simp;done)|(simp [*];done)),H',⟨Nat.le_refl _⟩,⟨uR HO134⟩,⟨uB HB⟩⟩
    case round=>
     clear H'
     try clear c2b0 c2b1 c4b0 c4b1 c5b0 c5b1 hx131_0 p131 q131
     obtain ⟨x4_1,x20_1,rfl,HA,HK1,HO_4,HB⟩:=hrel;cases gk with
     |zero=>exact absurd HA.out (by simp [Qb0.l0])
     |succ k1=>
      have H:=HA.out;clear HA;simp only [Qb0.l0] at H
      by_cases c8:x20_1<(l0.length:Int)
      ·
       rw [if_pos c8] at H;have c8b0:=decide_eq_true c8;clear c8
       by_cases c9:0≤x20_1
       ·
        rw [if_pos c9] at H;have c9b0:=decide_eq_true c9;clear c9
        by_cases c10:x20_1<(l0.length:Int)
        ·
         rw [if_pos c10] at H;have c10b0:=decide_eq_true c10;clear c10;have H':=Zk H;clear H;have p135:0≤(x20_1:Int):=of_decide_eq_true (by first|(with_reducible assumption)|assumption);have q135:x20_1<(l0.length:Int):=of_decide_eq_true (by first|(with_reducible assumption)|assumption);obtain ⟨ad135,A135_0,c135_0,e135,hx135_0,hl135_0,hi135_0⟩:=Qfg HR0.out x20_1 p135 q135;obtain rfl:ad131=ad135:=(by injection e135)
         replace hx135_0:=(HB.out.cell (World.block_lt_of_cell? w _ hx135_0)).trans hx135_0;have HR135_0:=Zk hi135_0;have HC135_0:=Zk hl135_0;clear hi135_0 hl135_0;replace p135:=eq_true p135;replace q135:=eq_true q135;go_wp2
         go_loopg [27] k1 (fun kq v27 w'=> ∃ (x4_2:List Int) (x27_2:Int),v27= .int .i64 x27_2∧Z0 (Qb0.l1 kq ((Qo l0 0).length:Int) x4_2 x20_1 l0 (l0.length:Int) x20_1 (Qo l0 x20_1) ((Qo l0 x20_1).length:Int) x27_2=some r)∧Z0 (kq≤k1)∧Z0 (Kd.R (Kd.int .i64) 3 w' w.heap.size (fun _=>True) v133 x4_2)∧Z0 (Below w.heap.size w w'))
         case atStart=>exact ⟨(x4_1),(0),(by first|rfl|(simp;done)|(simp [*];done)),H',⟨Nat.le_refl _⟩,⟨uR HO_4⟩,⟨uB HB⟩⟩
         case round=>
          clear H'
          try clear c8b0 c9b0 c10b0 hx135_0 p135 q135
          obtain ⟨x4_2,x27_2,rfl,HA,HK2,HO_4,HB⟩:=hrel;cases gk with
          |zero=>exact absurd HA.out (by simp [Qb0.l1])
          |succ k2=>
           have H:=HA.out;clear HA;simp only [Qb0.l1] at H
           by_cases c11:x27_2<((Qo l0 x20_1).length:Int)
           ·
            rw [if_pos c11] at H;have c11b0:=decide_eq_true c11;clear c11
            by_cases c12:0≤x27_2
            ·
             rw [if_pos c12] at H;have c12b0:=decide_eq_true c12;clear c12
             by_cases c13:x27_2<((Qo l0 x20_1).length:Int)
             ·
              rw [if_pos c13] at H;have c13b0:=decide_eq_true c13;clear c13
              by_cases c14:0≤(rd (Qo l0 x20_1) x27_2)
              ·
               rw [if_pos c14] at H;have c14b0:=decide_eq_true c14;clear c14
               by_cases c15:(rd (Qo l0 x20_1) x27_2)<(x4_2.length:Int)
               ·
                rw [if_pos c15] at H;have c15b0:=decide_eq_true c15;clear c15;obtain ⟨y137,hy137⟩: ∃ y_:List Int,y_=(x4_2.set ((rd (Qo l0 x20_1) x27_2):Int).toNat (wrap64 ((wrap64 (((Qo l0 0).length:Int)*x20_1))+x27_2))):=⟨_,rfl⟩
                replace H:(Qb0.l1 k2 ((Qo l0 0).length:Int) y137 x20_1 l0 (l0.length:Int) x20_1 (Qo l0 x20_1) ((Qo l0 x20_1).length:Int) (wrap64 (x27_2+1)))=some r:=by first|(rw [hy137];with_reducible exact H)|(have H2_:=(Option.bind_some _ _).symm.trans H;rw [hy137];with_reducible exact H2_)|(have H2_:=(Option.bind_some _ _).symm.trans H;with_reducible exact H2_)|with_reducible exact H|(rw [hy137];exact H)|exact H
                have Ny137:=Zk hy137;clear hy137;have H':=Zk H;clear H;have p136:0≤(x27_2:Int):=of_decide_eq_true (by first|(with_reducible assumption)|assumption);have q136:x27_2<((Qo l0 x20_1).length:Int):=of_decide_eq_true (by first|(with_reducible assumption)|assumption);obtain ⟨ad136,e136,hx136_0⟩:=Kd.at_int HR135_0.out x27_2 p136 q136;cases e136;replace hx136_0:=(HB.out.cell (World.block_lt_of_cell? w _ hx136_0)).trans hx136_0;replace p136:=eq_true p136;replace q136:=eq_true q136;have p16:0≤((rd (Qo l0 x20_1) x27_2):Int):=of_decide_eq_true (by first|(with_reducible assumption)|assumption);have q16:((rd (Qo l0 x20_1) x27_2):Int)<((x4_2.length:Int):Int):=of_decide_eq_true (by first|(with_reducible assumption)|assumption);obtain ⟨go16,co16,eo16,gb16,gl16,cl16,HG16⟩:=Kd.R_form HO_4.out (by omega)
                (first|cases eo16|(injection eo16 with ea_ en_ ec_;(first|subst ea_|(injection ea_ with ea_;subst ea_));subst ec_;clear en_))
                have GB16:=Zk gb16;have GG16:=Zk HG16;clear gb16 gl16 HG16;obtain ⟨hx16_0,hf16_0⟩:=Kd.R_celln 0 HO_4.out ((rd (Qo l0 x20_1) x27_2):Int) p16 q16;replace p16:=eq_true p16;replace q16:=eq_true q16;have HP17:=Kd.R_putg HO_4.out ((rd (Qo l0 x20_1) x27_2):Int) (wrap64 ((wrap64 (((Qo l0 0).length:Int)*x20_1))+x27_2));go_wp2_with (first|((with_reducible refine Qer (t:=3) (p:=39) rfl ?_);refine Qel (t:=3) (p:=39) (v:= ?vo_w18) (w1:=(wr.setCell ⟨go16,((rd (Qo l0 x20_1) x27_2):Int).toNat,none⟩ (.int .i64 (wrap64 ((wrap64 (((Qo l0 0).length:Int)*x20_1))+x27_2))))) ?hg ?ho ?hn ?hr ?_;(case ho=>rfl);(case hg=>rfl);(case hn=>rfl);(case hr=>first|(go_simp;done)|(go_simp;rfl));intro w18 hw;have hg:wr.grownBy w18 (some go16):=(by rw [hw];exact HP17.2);have hp_:Kd.R (Kd.int .i64) 3 w18 w.heap.size (fun _=>True) (.slice (some ⟨go16,0,none⟩) x4_2.length co16) y137:=(by rw [hw,Ny137.out];exact HP17.1);clear HP17;replace HO_4:=Zk (hp_);replace HB:=Zk ((by rw [hw];exact Qbt (HB.out) GB16.out:Below w.heap.size w w18));clear hg hw hp_));go_roundg k2
                case measure=>have:=HK1.out;have:=HK2.out;omega
                case rel=>exact ⟨(y137),(wrap64 (x27_2+1)),(by first|rfl|(simp;done)|(simp [*];done)),H',⟨by have:=HK1.out;have:=HK2.out;omega⟩,⟨uR HO_4⟩,⟨uB HB⟩⟩
               ·
                rw [if_neg c15] at H;exact absurd H (by simp)
              ·
               rw [if_neg c14] at H;exact absurd H (by simp)
             ·
              rw [if_neg c13] at H;exact absurd H (by simp)
            ·
             rw [if_neg c12] at H;exact absurd H (by simp)
           ·
            rw [if_neg c11] at H;have c11b0:=decide_eq_false c11;clear c11;have H':=Zk H;clear H;go_wp2;go_roundg k2
            case measure=>have:=HK1.out;have:=HK2.out;omega
            case rel=>exact ⟨(x4_2),(wrap64 (x20_1+1)),(by first|rfl|(simp;done)|(simp [*];done)),H',⟨by have:=HK1.out;have:=HK2.out;omega⟩,⟨uR HO_4⟩,⟨uB HB⟩⟩
        ·
         rw [if_neg c10] at H;exact absurd H (by simp)
       ·
        rw [if_neg c9] at H;exact absurd H (by simp)
      ·
       rw [if_neg c8] at H;have c8b0:=decide_eq_false c8;clear c8;obtain rfl:=Option.some.inj H;go_wp2
       go_ret
       exact ⟨_,by first|rfl|(simp [Qe,Qf] <;>rfl)|(simp only [←hji3];first|rfl|(simp [Qe,Qf] <;>rfl))|(simp [*,Qe,Qf] <;>rfl),uR HO_4,uB HB⟩
   ·
    rw [if_neg c5] at H;exact absurd H (by simp)
  ·
   rw [if_neg c4] at H;exact absurd H (by simp)
 ·
  rw [if_neg c2] at H;exact absurd H (by simp)
def Qcn.l0:Nat→List (List Int)→List Int→List Int→Int→Int→Option (List Int)
 |0,_,_,_,_,_=>none
 |k+1,x0,x3,x8,x9,x10=>if x10<x9 then (if 0≤x10 then (if x10<(x8.length:Int) then (if 0<(x0.length:Int) then (if ((Qo x0 0).length:Int)=0 then (none) else (if x3.length<17592186044416 then (Qcn.l0 k x0 (x3++ [wrap64 (Int.tdiv (rd x8 x10) ((Qo x0 0).length:Int))]) x8 x9 (wrap64 (x10+1))) else (none))) else (none)) else (none)) else (none)) else (some x3)
def Qcn.f (k:Nat) (l0:List (List Int)):Option (List Int):=(Qb0.f k l0).bind fun t141=>(Qcn.l0 k l0 (([] :List Int)) t141 (t141.length:Int) 0)
theorem Qcn.mono_l: ∀ k,(∀ y0 y1 y2 y3 y4,LeO (Qcn.l0 k y0 y1 y2 y3 y4) (Qcn.l0 (k+1) y0 y1 y2 y3 y4))
 |0=>fun _ _ _ _ _ r h=>by simp [Qcn.l0] at h
 |k+1=>by
  have ih0:=Qcn.mono_l k
  ·
   intro y0 y1 y2 y3 y4;unfold Qcn.l0
   repeat' first
   |(with_reducible exact ih0 _ _ _ _ _)
   |(with_reducible exact Qb0.mono _ _)
   |(with_reducible exact LeO.refl _)
   |(with_reducible exact LeO.none _)
   |(with_reducible refine LeO.ite ?_ ?_)
   |(with_reducible refine LeO.bind ?_ (fun _=> ?_))
   |exact ih0 _ _ _ _ _
   |exact Qb0.mono _ _
   |exact LeO.none _
   |refine LeO.ite ?_ ?_
   |refine LeO.bind ?_ (fun _=> ?_)
theorem Qcn.mono: ∀ a0 k,LeO (Qcn.f k a0) (Qcn.f (k+1) a0):=by
 intro a0 k;have ih0:=Qcn.mono_l k;unfold Qcn.f
 repeat' (with_reducible first|apply ih0|apply Qb0.mono|exact LeO.refl _|exact LeO.none _|refine LeO.ite ?_ ?_|refine LeO.bind ?_ (fun _=> ?_))
set_option maxHeartbeats 8000000 in
set_option maxRecDepth 100000 in
theorem Qcn.calls (k:Nat) (A0:Option Addr) (c0:Nat) (l0:List (List Int)) (r:List Int) (w:World) (hr0:Kd.C (Kd.slice 3 (Kd.int .i64)) w A0 l0.length l0) (hc0:l0.length≤c0) (h:Qcn.f k l0=some r):
 Calls Tryz.prog 324 #[.slice A0 l0.length c0] w fun e w'=> ∃ v0_:Value,e= .returned (v0_)∧Kd.R (Kd.int .i64) 3 w' w.heap.size (fun _=>True) v0_ r∧Below w.heap.size w w':=by
 have HR0:=Zk hr0;have HC0:=Zk hc0;clear hr0 hc0;have HB:=Zk (Below.refl w.heap.size w);have H:((Qb0.f k l0).bind fun t141=>(Qcn.l0 k l0 (([] :List Int)) t141 (t141.length:Int) 0))=some r:=h;clear h;obtain ⟨y138,hy138⟩: ∃ y_:List Int,y_=(([] :List Int)):=⟨_,rfl⟩
 replace H:((Qb0.f k l0).bind fun t141=>(Qcn.l0 k l0 y138 t141 (t141.length:Int) 0))=some r:=by first|(rw [hy138];with_reducible exact H)|(have H2_:=(Option.bind_some _ _).symm.trans H;rw [hy138];with_reducible exact H2_)|(have H2_:=(Option.bind_some _ _).symm.trans H;with_reducible exact H2_)|with_reducible exact H|(rw [hy138];exact H)|exact H
 have Ny138:=Zk hy138;clear hy138;obtain ⟨t141,A2,H⟩:=bs H;(try dsimp only at H)
 have H':=Zk H;clear H;go_enter Tryz.func324,Tryz.ntmps324;go_wp2_with (first|((with_reducible refine Qu (N:=6) rfl ?_);refine Kd.R_lit (Kd.int .i64) _ 3 ?hg (N:=6) ?hd (xs:=([] :List Int)) (inner:= []) (ok:=fun _=>True) (okp:=fun _=>True) ?hr ?hp (fun _ hk=>hk) trivial (Below.refl _ _) (Nat.le_refl _) (by simp) ?_;(case hd=>rfl);(case hg=>rfl);(case hr=>first|(go_simp;done)|(go_simp;rfl));(case hp=>exact (Reps.none _ _));intro v139 w3 ho4 hb hg_ hnew_;clear hg_ hnew_;(first|rw [←Ny138.out] at ho4|(simp only [Int.reduceToNat] at ho4;rw [←Ny138.out] at ho4));have HO140:=Zk (Kd.R_lower ho4 (Qh (uB HB)));replace HB:=Zk (Qb (uB HB) hb);clear hb ho4)|(refine gA (some 8) Tryz.func347 #[.slice A0 l0.length c0] ?_;(with_reducible refine (Qb0.calls k _ _ l0 t141 _ (uD HR0 HB) HC0.out A2.out).mono ?_);rintro e w5 ⟨v142,rfl,ho0,hb⟩;refine ⟨_,rfl,?_⟩;have HO143:=Zk (Kd.R_lower (Kd.R_new' ho0 (Kd.R_lt (uR HO140))) (Qh (uB HB)));replace HO140:=Zk (Kd.R_elder' (uR HO140) (Kd.R_base ho0) hb);replace HB:=Zk (Qb (uB HB) hb);(try clear hb ho0);obtain ⟨Ao6,co6,eo6⟩:=Kd.R_slice HO143.out;subst eo6))
 go_loopg [3,10] k (fun kq v3 v10 w'=> ∃ (x3_1:List Int) (x10_1:Int),v10= .int .i64 x10_1∧Z0 (Qcn.l0 kq l0 x3_1 t141 (t141.length:Int) x10_1=some r)∧Z0 (kq≤k)∧Z0 (Kd.R (Kd.int .i64) 3 w' w.heap.size (fun k_=>some k_≠((.slice Ao6 t141.length co6):Value).ownBlock) v3 x3_1)∧Z0 (Kd.R (Kd.int .i64) 3 w' w.heap.size (fun k_=>some k_≠(v3:Value).ownBlock) (.slice Ao6 t141.length co6) t141)∧Z0 (Below w.heap.size w w'))
 case atStart=>exact ⟨(y138),(0),(by first|rfl|(simp;done)|(simp [*];done)),H',⟨Nat.le_refl _⟩,⟨Kd.R_mono (uR HO140) (fun _ hk=>hk.2)⟩,⟨Kd.R_mono (uR HO143) (fun _ hk=>hk.2)⟩,⟨uB HB⟩⟩
 case round=>
  clear H'
  skip
  obtain ⟨x3_1,x10_1,rfl,HA,HK1,HO_3,HO_8,HB⟩:=hrel;cases gk with
  |zero=>exact absurd HA.out (by simp [Qcn.l0])
  |succ k1=>
   have H:=HA.out;clear HA;simp only [Qcn.l0] at H
   by_cases c7:x10_1<(t141.length:Int)
   ·
    rw [if_pos c7] at H;have c7b0:=decide_eq_true c7;clear c7
    by_cases c8:0≤x10_1
    ·
     rw [if_pos c8] at H;have c8b0:=decide_eq_true c8;clear c8
     by_cases c9:x10_1<(t141.length:Int)
     ·
      rw [if_pos c9] at H;have c9b0:=decide_eq_true c9;clear c9
      by_cases c10:0<(l0.length:Int)
      ·
       rw [if_pos c10] at H;have c10b0:=decide_eq_true c10;have c10b1:decide (0<l0.length)=true:=decide_eq_true (by omega);clear c10
       by_cases c11:((Qo l0 0).length:Int)=0
       ·
        rw [if_pos c11] at H;exact absurd H (by simp)
       ·
        rw [if_neg c11] at H;have c11b0:(((Qo l0 0).length:Int)==0)=false:=beq_eq_false_iff_ne.mpr c11;have c11b1:(((Qo l0 0).length:Int) !=0)=true:=bne_iff_ne.mpr c11;have c11b2: ¬ ((Qo l0 0)= []):=fun h_=>c11 (by rw [h_];rfl)
        by_cases c12:x3_1.length<17592186044416
        ·
         rw [if_pos c12] at H;have LMc12:=Zk c12;clear c12;obtain ⟨y146,hy146⟩: ∃ y_:List Int,y_=(x3_1++ [wrap64 (Int.tdiv (rd t141 x10_1) ((Qo l0 0).length:Int))]):=⟨_,rfl⟩
         replace H:(Qcn.l0 k1 l0 y146 t141 (t141.length:Int) (wrap64 (x10_1+1)))=some r:=by first|(rw [hy146];with_reducible exact H)|(have H2_:=(Option.bind_some _ _).symm.trans H;rw [hy146];with_reducible exact H2_)|(have H2_:=(Option.bind_some _ _).symm.trans H;with_reducible exact H2_)|with_reducible exact H|(rw [hy146];exact H)|exact H
         have Ny146:=Zk hy146;clear hy146;have H':=Zk H;clear H;have p144:0≤(x10_1:Int):=of_decide_eq_true (by first|(with_reducible assumption)|assumption);have q144:x10_1<(t141.length:Int):=of_decide_eq_true (by first|(with_reducible assumption)|assumption);obtain ⟨ad144,e144,hx144_0⟩:=Kd.at_int (Kd.R_reads' HO_8.out).2.2 x10_1 p144 q144;cases e144;replace p144:=eq_true p144;replace q144:=eq_true q144;have p145:0≤(0:Int):=(by omega)
         have q145:0<(l0.length:Int):=of_decide_eq_true (by first|(with_reducible assumption)|assumption);obtain ⟨ad145,A145_0,c145_0,e145,hx145_0,hl145_0,hi145_0⟩:=Qfg HR0.out 0 p145 q145;cases e145;have qi145:(0<l0.length)=True:=eq_true (by omega)
         (try rw [show ((0:Int)).toNat=0 from rfl] at hx145_0)
         (try rw [Addr.add_zero'] at hx145_0)
         replace hx145_0:=(HB.out.cell (World.block_lt_of_cell? w _ hx145_0)).trans hx145_0;have HR145_0:=Zk hi145_0;have HC145_0:=Zk hl145_0;clear hi145_0 hl145_0;replace p145:=eq_true p145;replace q145:=eq_true q145;go_wp2_with (first|((with_reducible refine Qb1 (b:= .append) (xs:= #[.tmp 14, .tmp 21]) rfl ?_);at_builtin;refine Kd.R_append (Kd.int .i64) (w0:=w) w.heap.size rfl (.tmp 14) (.tmp 21) 24 3 (.int .i64 0) 8 rfl Tryz.underlying24 Qdq rfl (by decide) (by omega) u3 x3_1 (wrap64 (Int.tdiv (rd t141 x10_1) ((Qo l0 0).length:Int))) [.int .i64 (wrap64 (Int.tdiv (rd t141 x10_1) ((Qo l0 0).length:Int)))] (fun k_=>some k_≠(.slice (some ad144) t141.length co6:Value).ownBlock) (fun _=>False) rfl rfl ?aP (fun _ hk=>hk.elim) ?aF ?aO ?aB ?aS ?aL ?_;(case aP=>exact rfl);(case aB=>exact (uB HB));(case aF=>exact (fun k_ hk=>Kd.fresh' (Kd.R_lt (uR HO_8)) k_ hk));(case aO=>exact (uR HO_3));(case aS=>exact (Qh (uB HB)));(case aL=>have:=LMc12.out;omega);intro v147 w13 ho hb hg hat;rw [←Ny146.out] at ho;replace HO_8:=Zk (Kd.R_after (ok:=(fun _=>True)) (Kd.R_mono (uR HO_8) (fun _ hk=>⟨trivial,hk⟩)) hg hat);replace HB:=Zk (hb);have HO148:=Zk (ho);clear HO_3;clear ho hb hg hat));go_roundg k1
         case measure=>have:=HK1.out;omega
         case rel=>exact ⟨(y146),(wrap64 (x10_1+1)),(by first|rfl|(simp;done)|(simp [*];done)),H',⟨by have:=HK1.out;omega⟩,⟨uR HO148⟩,⟨Kd.R_mono (uR HO_8) (fun _ hk=>hk.2)⟩,⟨uB HB⟩⟩
        ·
         rw [if_neg c12] at H;exact absurd H (by simp)
      ·
       rw [if_neg c10] at H;exact absurd H (by simp)
     ·
      rw [if_neg c9] at H;exact absurd H (by simp)
    ·
     rw [if_neg c8] at H;exact absurd H (by simp)
   ·
    rw [if_neg c7] at H;have c7b0:=decide_eq_false c7;clear c7;obtain rfl:=Option.some.inj H;go_wp2
    go_ret
    exact ⟨_,by first|rfl|(simp [Qe,Qf] <;>rfl)|(simp [*,Qe,Qf] <;>rfl),Kd.R_mono (uR HO_3) (fun _ hk=>trivial),uB HB⟩
def Qce.l0:Nat→List Int→List Int→Int→Option (List Int)
 |0,_,_,_=>none
 |k+1,x3,x4,x5=>if x5<(x4.length:Int) then (if 0≤x5 then (if 0≤(wrap64 (x5 - 1)) then (if (wrap64 (x5 - 1))<(x4.length:Int) then (if (rd x4 x5)>(rd x4 (wrap64 (x5 - 1))) then (if x3.length<17592186044416 then (Qce.l0 k (x3++ [x5]) x4 (wrap64 (x5+1))) else (none)) else (Qce.l0 k x3 x4 (wrap64 (x5+1)))) else (none)) else (none)) else (none)) else (some x3)
def Qce.f (k:Nat) (l0:List (List Int)):Option (List Int):=(Qcn.f k l0).bind fun t152=>(Qce.l0 k (([] :List Int)) t152 1)
theorem Qce.mono_l: ∀ k,(∀ y0 y1 y2,LeO (Qce.l0 k y0 y1 y2) (Qce.l0 (k+1) y0 y1 y2))
 |0=>fun _ _ _ r h=>by simp [Qce.l0] at h
 |k+1=>by
  have ih0:=Qce.mono_l k
  ·
   intro y0 y1 y2;unfold Qce.l0
   repeat' first
   |(with_reducible exact ih0 _ _ _)
   |(with_reducible exact Qcn.mono _ _)
   |(with_reducible exact LeO.refl _)
   |(with_reducible exact LeO.none _)
   |(with_reducible refine LeO.ite ?_ ?_)
   |(with_reducible refine LeO.bind ?_ (fun _=> ?_))
   |exact ih0 _ _ _
   |exact Qcn.mono _ _
   |exact LeO.none _
   |refine LeO.ite ?_ ?_
   |refine LeO.bind ?_ (fun _=> ?_)
theorem Qce.mono: ∀ a0 k,LeO (Qce.f k a0) (Qce.f (k+1) a0):=by
 intro a0 k;have ih0:=Qce.mono_l k;unfold Qce.f
 repeat' (with_reducible first|apply ih0|apply Qcn.mono|exact LeO.refl _|exact LeO.none _|refine LeO.ite ?_ ?_|refine LeO.bind ?_ (fun _=> ?_))
set_option maxHeartbeats 8000000 in
set_option maxRecDepth 100000 in
theorem Qce.calls (k:Nat) (A0:Option Addr) (c0:Nat) (l0:List (List Int)) (r:List Int) (w:World) (hr0:Kd.C (Kd.slice 3 (Kd.int .i64)) w A0 l0.length l0) (hc0:l0.length≤c0) (h:Qce.f k l0=some r):
 Calls Tryz.prog 261 #[.slice A0 l0.length c0] w fun e w'=> ∃ v0_:Value,e= .returned (v0_)∧Kd.R (Kd.int .i64) 3 w' w.heap.size (fun _=>True) v0_ r∧Below w.heap.size w w':=by
 have HR0:=Zk hr0;have HC0:=Zk hc0;clear hr0 hc0;have HB:=Zk (Below.refl w.heap.size w);have H:((Qcn.f k l0).bind fun t152=>(Qce.l0 k (([] :List Int)) t152 1))=some r:=h;clear h;obtain ⟨y149,hy149⟩: ∃ y_:List Int,y_=(([] :List Int)):=⟨_,rfl⟩
 replace H:((Qcn.f k l0).bind fun t152=>(Qce.l0 k y149 t152 1))=some r:=by first|(rw [hy149];with_reducible exact H)|(have H2_:=(Option.bind_some _ _).symm.trans H;rw [hy149];with_reducible exact H2_)|(have H2_:=(Option.bind_some _ _).symm.trans H;with_reducible exact H2_)|with_reducible exact H|(rw [hy149];exact H)|exact H
 have Ny149:=Zk hy149;clear hy149;obtain ⟨t152,A2,H⟩:=bs H;(try dsimp only at H)
 have H':=Zk H;clear H;go_enter Tryz.func261,Tryz.ntmps261;go_wp2_with (first|((with_reducible refine Qu (N:=6) rfl ?_);refine Kd.R_lit (Kd.int .i64) _ 3 ?hg (N:=6) ?hd (xs:=([] :List Int)) (inner:= []) (ok:=fun _=>True) (okp:=fun _=>True) ?hr ?hp (fun _ hk=>hk) trivial (Below.refl _ _) (Nat.le_refl _) (by simp) ?_;(case hd=>rfl);(case hg=>rfl);(case hr=>first|(go_simp;done)|(go_simp;rfl));(case hp=>exact (Reps.none _ _));intro v150 w3 ho4 hb hg_ hnew_;clear hg_ hnew_;(first|rw [←Ny149.out] at ho4|(simp only [Int.reduceToNat] at ho4;rw [←Ny149.out] at ho4));have HO151:=Zk (Kd.R_lower ho4 (Qh (uB HB)));replace HB:=Zk (Qb (uB HB) hb);clear hb ho4)|(go_at_call 324;(with_reducible refine (Qcn.calls k _ _ l0 t152 _ (uD HR0 HB) HC0.out A2.out).mono ?_);rintro e w5 ⟨v153,rfl,ho0,hb⟩;have HO154:=Zk (Kd.R_lower (Kd.R_new' ho0 (Kd.R_lt (uR HO151))) (Qh (uB HB)));replace HO151:=Zk (Kd.R_elder' (uR HO151) (Kd.R_base ho0) hb);replace HB:=Zk (Qb (uB HB) hb);(try clear hb ho0)))
 repeat (go_quiet (first|((with_reducible refine Qu (N:=6) rfl ?_);refine Kd.R_lit (Kd.int .i64) _ 3 ?hg (N:=6) ?hd (xs:=([] :List Int)) (inner:= []) (ok:=fun _=>True) (okp:=fun _=>True) ?hr ?hp (fun _ hk=>hk) trivial (Below.refl _ _) (Nat.le_refl _) (by simp) ?_;(case hd=>rfl);(case hg=>rfl);(case hr=>first|(go_simp;done)|(go_simp;rfl));(case hp=>exact (Reps.none _ _));intro v150 w3 ho4 hb hg_ hnew_;clear hg_ hnew_;(first|rw [←Ny149.out] at ho4|(simp only [Int.reduceToNat] at ho4;rw [←Ny149.out] at ho4));have HO151:=Zk (Kd.R_lower ho4 (Qh (uB HB)));replace HB:=Zk (Qb (uB HB) hb);clear hb ho4)|(go_at_call 324;(with_reducible refine (Qcn.calls k _ _ l0 t152 _ (uD HR0 HB) HC0.out A2.out).mono ?_);rintro e w5 ⟨v153,rfl,ho0,hb⟩;have HO154:=Zk (Kd.R_lower (Kd.R_new' ho0 (Kd.R_lt (uR HO151))) (Qh (uB HB)));replace HO151:=Zk (Kd.R_elder' (uR HO151) (Kd.R_base ho0) hb);replace HB:=Zk (Qb (uB HB) hb);(try clear hb ho0)));try go_wp2_with (first|((with_reducible refine Qu (N:=6) rfl ?_);refine Kd.R_lit (Kd.int .i64) _ 3 ?hg (N:=6) ?hd (xs:=([] :List Int)) (inner:= []) (ok:=fun _=>True) (okp:=fun _=>True) ?hr ?hp (fun _ hk=>hk) trivial (Below.refl _ _) (Nat.le_refl _) (by simp) ?_;(case hd=>rfl);(case hg=>rfl);(case hr=>first|(go_simp;done)|(go_simp;rfl));(case hp=>exact (Reps.none _ _));intro v150 w3 ho4 hb hg_ hnew_;clear hg_ hnew_;(first|rw [←Ny149.out] at ho4|(simp only [Int.reduceToNat] at ho4;rw [←Ny149.out] at ho4));have HO151:=Zk (Kd.R_lower ho4 (Qh (uB HB)));replace HB:=Zk (Qb (uB HB) hb);clear hb ho4)|(go_at_call 324;(with_reducible refine (Qcn.calls k _ _ l0 t152 _ (uD HR0 HB) HC0.out A2.out).mono ?_);rintro e w5 ⟨v153,rfl,ho0,hb⟩;have HO154:=Zk (Kd.R_lower (Kd.R_new' ho0 (Kd.R_lt (uR HO151))) (Qh (uB HB)));replace HO151:=Zk (Kd.R_elder' (uR HO151) (Kd.R_base ho0) hb);replace HB:=Zk (Qb (uB HB) hb);(try clear hb ho0))))
 go_loopg [3,5] k (fun kq v3 v5 w'=> ∃ (x3_1:List Int) (x5_1:Int),v5= .int .i64 x5_1∧Z0 (Qce.l0 kq x3_1 t152 x5_1=some r)∧Z0 (kq≤k)∧Z0 (Kd.R (Kd.int .i64) 3 w' w.heap.size (fun k_=>some k_≠(v153:Value).ownBlock) v3 x3_1)∧Z0 (Kd.R (Kd.int .i64) 3 w' w.heap.size (fun k_=>some k_≠(v3:Value).ownBlock) v153 t152)∧Z0 (Below w.heap.size w w'))
 case atStart=>exact ⟨(y149),(1),(by first|rfl|(simp;done)|(simp [*];done)),H',⟨Nat.le_refl _⟩,⟨Kd.R_mono (uR HO151) (fun _ hk=>hk.2)⟩,⟨Kd.R_mono (uR HO154) (fun _ hk=>hk.2)⟩,⟨uB HB⟩⟩
 case round=>
  clear H'
  skip
  obtain ⟨x3_1,x5_1,rfl,HA,HK1,HO_3,HO_4,HB⟩:=hrel;cases gk with
  |zero=>exact absurd HA.out (by simp [Qce.l0])
  |succ k1=>
   have H:=HA.out;clear HA;simp only [Qce.l0] at H
   by_cases c6:x5_1<(t152.length:Int)
   ·
    rw [if_pos c6] at H;have c6b0:=decide_eq_true c6;clear c6
    by_cases c7:0≤x5_1
    ·
     rw [if_pos c7] at H;have c7b0:=decide_eq_true c7;clear c7;obtain ⟨ji8,hji8⟩: ∃ j_:Int,(wrap64 (x5_1 - 1))=j_:=⟨_,rfl⟩
     replace H:(if 0≤(ji8) then (if (ji8)<(t152.length:Int) then (if (rd t152 x5_1)>(rd t152 (ji8)) then (if x3_1.length<17592186044416 then (Qce.l0 k1 (x3_1++ [x5_1]) t152 (wrap64 (x5_1+1))) else (none)) else (Qce.l0 k1 x3_1 t152 (wrap64 (x5_1+1)))) else (none)) else (none))=some r:=by first|(rw [hji8] at H;exact H)|(simp only [hji8] at H ⊢;exact H)
     have hji8w:(IntKind.i64.wrap (x5_1 - 1))=ji8:=(Qcm _).trans hji8
     by_cases c9:0≤(ji8)
     ·
      rw [if_pos c9] at H;have c9b0:=decide_eq_true c9;clear c9
      by_cases c10:(ji8)<(t152.length:Int)
      ·
       rw [if_pos c10] at H;have c10b0:=decide_eq_true c10;clear c10
       by_cases c11:(rd t152 x5_1)>(rd t152 (ji8))
       ·
        rw [if_pos c11] at H;have c11b0:=decide_eq_true c11;clear c11
        by_cases c12:x3_1.length<17592186044416
        ·
         rw [if_pos c12] at H;have LMc12:=Zk c12;clear c12;obtain ⟨y157,hy157⟩: ∃ y_:List Int,y_=(x3_1++ [x5_1]):=⟨_,rfl⟩
         replace H:(Qce.l0 k1 y157 t152 (wrap64 (x5_1+1)))=some r:=by first|(rw [hy157];with_reducible exact H)|(have H2_:=(Option.bind_some _ _).symm.trans H;rw [hy157];with_reducible exact H2_)|(have H2_:=(Option.bind_some _ _).symm.trans H;with_reducible exact H2_)|with_reducible exact H|(rw [hy157];exact H)|exact H
         have Ny157:=Zk hy157;clear hy157;have H':=Zk H;clear H;obtain ⟨Ao13,co13,eo13⟩:=Kd.R_slice HO_4.out;subst eo13;have p155:0≤(x5_1:Int):=of_decide_eq_true (by first|(with_reducible assumption)|assumption);have q155:x5_1<(t152.length:Int):=of_decide_eq_true (by first|(with_reducible assumption)|assumption);obtain ⟨ad155,e155,hx155_0⟩:=Kd.at_int (Kd.R_reads' HO_4.out).2.2 x5_1 p155 q155;cases e155;replace p155:=eq_true p155;replace q155:=eq_true q155;have p156:0≤((ji8):Int):=of_decide_eq_true (by first|(with_reducible assumption)|assumption);have q156:(ji8)<(t152.length:Int):=of_decide_eq_true (by first|(with_reducible assumption)|assumption);obtain ⟨ad156,e156,hx156_0⟩:=Kd.at_int (Kd.R_reads' HO_4.out).2.2 (ji8) p156 q156;obtain rfl:ad155=ad156:=(by injection e156)
         replace p156:=eq_true p156;replace q156:=eq_true q156;go_wp2_with (first|((with_reducible refine Qb1 (b:= .append) (xs:= #[.tmp 25, .tmp 27]) rfl ?_);at_builtin;refine Kd.R_append (Kd.int .i64) (w0:=w) w.heap.size rfl (.tmp 25) (.tmp 27) 24 3 (.int .i64 0) 8 rfl Tryz.underlying24 Qdq rfl (by decide) (by omega) u3 x3_1 x5_1 [.int .i64 x5_1] (fun k_=>some k_≠(.slice (some ad155) t152.length co13:Value).ownBlock) (fun _=>False) rfl rfl ?aP (fun _ hk=>hk.elim) ?aF ?aO ?aB ?aS ?aL ?_;(case aP=>exact rfl);(case aB=>exact (uB HB));(case aF=>exact (fun k_ hk=>Kd.fresh' (Kd.R_lt (uR HO_4)) k_ hk));(case aO=>exact (uR HO_3));(case aS=>exact (Qh (uB HB)));(case aL=>have:=LMc12.out;omega);intro v158 w14 ho hb hg hat;rw [←Ny157.out] at ho;replace HO_4:=Zk (Kd.R_after (ok:=(fun _=>True)) (Kd.R_mono (uR HO_4) (fun _ hk=>⟨trivial,hk⟩)) hg hat);replace HB:=Zk (hb);have HO159:=Zk (ho);clear HO_3;clear ho hb hg hat))
         repeat (go_quiet (first|((with_reducible refine Qb1 (b:= .append) (xs:= #[.tmp 25, .tmp 27]) rfl ?_);at_builtin;refine Kd.R_append (Kd.int .i64) (w0:=w) w.heap.size rfl (.tmp 25) (.tmp 27) 24 3 (.int .i64 0) 8 rfl Tryz.underlying24 Qdq rfl (by decide) (by omega) u3 x3_1 x5_1 [.int .i64 x5_1] (fun k_=>some k_≠(.slice (some ad155) t152.length co13:Value).ownBlock) (fun _=>False) rfl rfl ?aP (fun _ hk=>hk.elim) ?aF ?aO ?aB ?aS ?aL ?_;(case aP=>exact rfl);(case aB=>exact (uB HB));(case aF=>exact (fun k_ hk=>Kd.fresh' (Kd.R_lt (uR HO_4)) k_ hk));(case aO=>exact (uR HO_3));(case aS=>exact (Qh (uB HB)));(case aL=>have:=LMc12.out;omega);intro v158 w14 ho hb hg hat;rw [←Ny157.out] at ho;replace HO_4:=Zk (Kd.R_after (ok:=(fun _=>True)) (Kd.R_mono (uR HO_4) (fun _ hk=>⟨trivial,hk⟩)) hg hat);replace HB:=Zk (hb);have HO159:=Zk (ho);clear HO_3;clear ho hb hg hat));try go_wp2_with (first|((with_reducible refine Qb1 (b:= .append) (xs:= #[.tmp 25, .tmp 27]) rfl ?_);at_builtin;refine Kd.R_append (Kd.int .i64) (w0:=w) w.heap.size rfl (.tmp 25) (.tmp 27) 24 3 (.int .i64 0) 8 rfl Tryz.underlying24 Qdq rfl (by decide) (by omega) u3 x3_1 x5_1 [.int .i64 x5_1] (fun k_=>some k_≠(.slice (some ad155) t152.length co13:Value).ownBlock) (fun _=>False) rfl rfl ?aP (fun _ hk=>hk.elim) ?aF ?aO ?aB ?aS ?aL ?_;(case aP=>exact rfl);(case aB=>exact (uB HB));(case aF=>exact (fun k_ hk=>Kd.fresh' (Kd.R_lt (uR HO_4)) k_ hk));(case aO=>exact (uR HO_3));(case aS=>exact (Qh (uB HB)));(case aL=>have:=LMc12.out;omega);intro v158 w14 ho hb hg hat;rw [←Ny157.out] at ho;replace HO_4:=Zk (Kd.R_after (ok:=(fun _=>True)) (Kd.R_mono (uR HO_4) (fun _ hk=>⟨trivial,hk⟩)) hg hat);replace HB:=Zk (hb);have HO159:=Zk (ho);clear HO_3;clear ho hb hg hat)))
         go_roundg k1
         case measure=>have:=HK1.out;omega
         case rel=>exact ⟨(y157),(wrap64 (x5_1+1)),(by first|rfl|(simp;done)|(simp [*];done)),H',⟨by have:=HK1.out;omega⟩,⟨uR HO159⟩,⟨Kd.R_mono (uR HO_4) (fun _ hk=>hk.2)⟩,⟨uB HB⟩⟩
        ·
         rw [if_neg c12] at H;exact absurd H (by simp)
       ·
        rw [if_neg c11] at H;have c11b0:=decide_eq_false c11;clear c11;have H':=Zk H;clear H;obtain ⟨Ao15,co15,eo15⟩:=Kd.R_slice HO_4.out;subst eo15;have p155:0≤(x5_1:Int):=of_decide_eq_true (by first|(with_reducible assumption)|assumption);have q155:x5_1<(t152.length:Int):=of_decide_eq_true (by first|(with_reducible assumption)|assumption);obtain ⟨ad155,e155,hx155_0⟩:=Kd.at_int (Kd.R_reads' HO_4.out).2.2 x5_1 p155 q155;cases e155;replace p155:=eq_true p155;replace q155:=eq_true q155;have p156:0≤((ji8):Int):=of_decide_eq_true (by first|(with_reducible assumption)|assumption);have q156:(ji8)<(t152.length:Int):=of_decide_eq_true (by first|(with_reducible assumption)|assumption);obtain ⟨ad156,e156,hx156_0⟩:=Kd.at_int (Kd.R_reads' HO_4.out).2.2 (ji8) p156 q156;obtain rfl:ad155=ad156:=(by injection e156)
        replace p156:=eq_true p156;replace q156:=eq_true q156;go_wp2
        repeat (go_quiet (fail);try go_wp2)
        go_roundg k1
        case measure=>have:=HK1.out;omega
        case rel=>exact ⟨(x3_1),(wrap64 (x5_1+1)),(by first|rfl|(simp;done)|(simp [*];done)),H',⟨by have:=HK1.out;omega⟩,⟨uR HO_3⟩,⟨uR HO_4⟩,⟨uB HB⟩⟩
      ·
       rw [if_neg c10] at H;exact absurd H (by simp)
     ·
      rw [if_neg c9] at H;exact absurd H (by simp)
    ·
     rw [if_neg c7] at H;exact absurd H (by simp)
   ·
    rw [if_neg c6] at H;have c6b0:=decide_eq_false c6;clear c6;obtain rfl:=Option.some.inj H;obtain ⟨Ao16,co16,eo16⟩:=Kd.R_slice HO_4.out;subst eo16;go_wp2
    repeat (go_quiet (fail);try go_wp2)
    go_ret
    exact ⟨_,by first|rfl|(simp [Qe,Qf] <;>rfl)|(simp [*,Qe,Qf] <;>rfl),Kd.R_mono (uR HO_3) (fun _ hk=>trivial),uB HB⟩
end Go.Proofs.YtkgngggppcmpfaaGreat.L
end
section
namespace Go.Proofs.YtkgngggppcmpfaaGreat.L
open Go.RowKit Go.Proofs.YtkgngggppcmpfaaGreatW.PrintWords Go.Proofs.YtkgngggppcmpfaaGreatW.PrintLast Go.Proofs.YtkgngggppcmpfaaGreatW.PrintMore
attribute [local go_sem] Qy Q0 Qbb Qbc Qp Qq Qz Q1
set_option linter.unusedVariables false
set_option linter.unusedSimpArgs false
def Qeg.f (k:Nat) (l0:List (List Int)):Option Int:=(Qce.f k l0).bind fun l=>if l.length≤9223372036854775806 then some (Go.Proofs.YtkgngggppcmpfaaGreat.X.sumF (fun x=>x) l) else none
theorem Qeg.mono: ∀ a0 k,LeO (Qeg.f k a0) (Qeg.f (k+1) a0):=fun l0 k=>LeO.bind (Qce.mono _ _) fun l=>LeO.refl _
open Go.Proofs.YtkgngggppcmpfaaGreat.X in
set_option maxHeartbeats 800000 in
set_option maxRecDepth 100000 in
theorem Qeg.lit (x:Int) (w:World):Fv Tryz.prog 323 #[] #[.int .i64 x] (.int .i64 x) w:=by
 intro W hb;go_enter Tryz.func323,Tryz.ntmps323;go_wp2
 go_ret
 exact ⟨rfl,by first|exact Below.refl _ _|exact Qk (Below.refl _ _) _⟩
open Go.Proofs.YtkgngggppcmpfaaGreat.X in
set_option maxHeartbeats 800000 in
set_option maxRecDepth 100000 in
theorem Qeg.calls (k:Nat) (A0:Option Addr) (c0:Nat) (l0:List (List Int)) (r:Int) (w:World) (hr0:Kd.C (Kd.slice 3 (Kd.int .i64)) w A0 l0.length l0) (hc0:l0.length≤c0) (h:Qeg.f k l0=some r):
 Calls Tryz.prog 259 #[.slice A0 l0.length c0] w fun e w'=>e= .returned (.int .i64 r)∧Below w.heap.size w w':=by
 have HR:=Zk hr0;have HC:=Zk hc0;clear hr0 hc0;unfold Qeg.f at h;obtain ⟨l,hl,h⟩:=Option.bind_eq_some_iff.mp h
 split at h
 ·
  rename_i hlen;obtain rfl:=Option.some.inj h;have HD:=Zk hl;have HL:=Zk hlen;clear h hl hlen;go_enter Tryz.func259,Tryz.ntmps259;go_wp2_with fail;refine (Qce.calls k _ _ l0 l _ HR.out HC.out HD.out).mono ?_;rintro e w1 ⟨v0,rfl,hR,hb⟩;obtain ⟨Ao,co,rfl,hl,hC⟩:=Kd.R_reads hR;have B1:=Zk hb;have HC1:=Zk hC;clear hb hR hC hl;go_wp2_with fail;refine (Qgo.calls Ao co l 323 #[] (fun x=>x) _ (Qet Tryz.func323 (by kernel_rfl) rfl) HC1.out HL.out (fun x hx=>Qeg.lit x _)).mono ?_;rintro e w2 ⟨rfl,hb⟩;have B2:=Zk (Qbp B1.out hb);clear hb;go_wp2
  go_ret
  exact ⟨rfl,B2.out⟩
 ·
  cases h
end Go.Proofs.YtkgngggppcmpfaaGreat.L
end
section
namespace Go.Proofs.YtkgngggppcmpfaaGreat.L
open Go.RowKit Go.Proofs.YtkgngggppcmpfaaGreatW.PrintWords Go.Proofs.YtkgngggppcmpfaaGreatW.PrintLast Go.Proofs.YtkgngggppcmpfaaGreatW.PrintMore Go.Proofs.YtkgngggppcmpfaaGreat.X
attribute [local go_sem] Qy Q0 Qbb Qbc Qp Qq Qz Q1
set_option linter.unusedVariables false
set_option linter.unusedSimpArgs false
def Qef.f (l0_0:List Int):Option (Int):=some (l0_0.length:Int)
set_option maxHeartbeats 8000000 in
set_option maxRecDepth 100000 in
theorem Qef.calls (A0_0:Option Addr) (c0_0:Nat) (l0_0:List Int) (r:Int) (w:World) (hr0_0:Kd.C (Kd.int .i64) w A0_0 l0_0.length l0_0) (hc0_0:l0_0.length≤c0_0) (h:Qef.f l0_0=some r):
 Calls Tryz.prog 244 #[.agg #[.slice A0_0 l0_0.length c0_0]] w fun e w'=>e= .returned (.int .i64 r)∧Below w.heap.size w w':=by
 have hu26:=Tryz.underlying26;have HR0_0:=Zk hr0_0;have HC0_0:=Zk hc0_0;clear hr0_0 hc0_0;have HB:=Zk (Below.refl w.heap.size w);have H:(some (l0_0.length:Int))=some r:=h;clear h;obtain rfl:=Option.some.inj H;go_enter Tryz.func244,Tryz.ntmps244;go_wp2_with (first|(refine bE (N:=1) (cs:= #[.slice A0_0 l0_0.length c0_0]) (t:=26) ?_;intro gb160 hg w2 hbox hb;have BK160:=Zk (hbox);have GW160:=Zk ((by rw [hg];exact (Qh (uB HB)):w.heap.size≤gb160));have GE160:=GW160;replace HB:=Zk (Qb (uB HB) hb);clear hb hbox hg;have hcz3_0:=bC BK160;have hfz3_0:=Q6 BK160.out 0))
 go_ret
 exact ⟨by first|rfl|(simp [Qe,Qf] <;>rfl)|(simp [*,Qe,Qf] <;>rfl),(vB HB)⟩
end Go.Proofs.YtkgngggppcmpfaaGreat.L
end
section
namespace Go.Proofs.YtkgngggppcmpfaaGreat.L
open Go.RowKit Go.Proofs.YtkgngggppcmpfaaGreatW.PrintWords Go.Proofs.YtkgngggppcmpfaaGreatW.PrintLast Go.Proofs.YtkgngggppcmpfaaGreatW.PrintMore
attribute [local go_sem] Qy Q0 Qbb Qbc Qp Qq Qz Q1
set_option linter.unusedVariables false
set_option linter.unusedSimpArgs false
def Qeu.f (a0:Int) (a1:Int):Option (Bool):=if 0≤a1 then (some ((Go.bits .and .i64 (shr .i64 a0 a1) 1)==1)) else (none)
set_option maxHeartbeats 8000000 in
set_option maxRecDepth 100000 in
theorem Qeu.calls (a0:Int) (a1:Int) (r:Bool) (w:World) (h:Qeu.f a0 a1=some r):
 Calls Tryz.prog 294 #[.int .i64 a0, .int .i64 a1] w fun e w'=>e= .returned (.bool r)∧Drawn0 w w':=by
 have H:(if 0≤a1 then (some ((Go.bits .and .i64 (shr .i64 a0 a1) 1)==1)) else (none))=some r:=h;clear h
 by_cases c3:0≤a1
 ·
  rw [if_pos c3] at H;have c3b0:=eq_true c3;have c3b1:=decide_eq_true c3;clear c3;obtain ⟨ji4,hji4⟩: ∃ j_:Int,(shr .i64 a0 a1)=j_:=⟨_,rfl⟩
  replace H:(some ((Go.bits .and .i64 (ji4) 1)==1))=some r:=by first|(rw [hji4] at H;exact H)|(simp only [hji4] at H ⊢;exact H)
  have hji4_:(a0 / 2 ^ min a1.toNat 64)=ji4:=hji4;have hji4z:a1≤64→(a0 / 2 ^ a1.toNat)=ji4:=Qg8 hji4;obtain rfl:=Option.some.inj H;go_enter Tryz.func294,Tryz.ntmps294;go_wp2
  go_ret
  exact ⟨by first|rfl|(simp;done)|(simp only [←hji4] <;>(first|rfl|simp))|(simp [*];done),by repeat (first|exact Drawn0.refl _|apply Drawn0.step)⟩
 ·
  rw [if_neg c3] at H;exact absurd H (by simp)
end Go.Proofs.YtkgngggppcmpfaaGreat.L
end
section
namespace Go.Proofs.YtkgngggppcmpfaaGreat.L
open Go.RowKit Go.Proofs.YtkgngggppcmpfaaGreatW.PrintWords Go.Proofs.YtkgngggppcmpfaaGreatW.PrintLast Go.Proofs.YtkgngggppcmpfaaGreatW.PrintMore Go.Proofs.YtkgngggppcmpfaaGreat.X
attribute [local go_sem] Qy Q0 Qbb Qbc Qp Qq Qz Q1
set_option linter.unusedVariables false
set_option linter.unusedSimpArgs false
def Qb7.l0:Nat→Int→List Int→Int→Option (List Int)
 |0,_,_,_=>none
 |k+1,x0,x3,x6=>if x6<10 then ((Qeu.f x0 x6).bind fun t164=>(if t164=true then (if x3.length<17592186044416 then (Qb7.l0 k x0 (x3++ [x6]) (wrap64 (x6+1))) else (none)) else (Qb7.l0 k x0 x3 (wrap64 (x6+1))))) else (some x3)
def Qb7.f (k:Nat) (a0:Int):Option (List Int):=Qb7.l0 k a0 (([] :List Int)) 0
theorem Qb7.mono_l: ∀ k,(∀ y0 y1 y2,LeO (Qb7.l0 k y0 y1 y2) (Qb7.l0 (k+1) y0 y1 y2))
 |0=>fun _ _ _ r h=>by simp [Qb7.l0] at h
 |k+1=>by
  have ih0:=Qb7.mono_l k
  ·
   intro y0 y1 y2;unfold Qb7.l0
   repeat' first
   |(with_reducible exact ih0 _ _ _)
   |(with_reducible exact LeO.refl _)
   |(with_reducible exact LeO.none _)
   |(with_reducible refine LeO.ite ?_ ?_)
   |(with_reducible refine LeO.bind ?_ (fun _=> ?_))
   |exact ih0 _ _ _
   |exact LeO.none _
   |refine LeO.ite ?_ ?_
   |refine LeO.bind ?_ (fun _=> ?_)
theorem Qb7.mono: ∀ a0 k,LeO (Qb7.f k a0) (Qb7.f (k+1) a0):=by
 intro a0 k;have ih0:=Qb7.mono_l k;unfold Qb7.f
 repeat' (with_reducible first|apply ih0|exact LeO.refl _|exact LeO.none _|refine LeO.ite ?_ ?_|refine LeO.bind ?_ (fun _=> ?_))
set_option maxHeartbeats 8000000 in
set_option maxRecDepth 100000 in
theorem Qb7.calls (k:Nat) (a0:Int) (r:List Int) (w:World) (h:Qb7.f k a0=some r):
 Calls Tryz.prog 277 #[.int .i64 a0] w fun e w'=> ∃ v0_:Value,e= .returned (v0_)∧Kd.R (Kd.int .i64) 3 w' w.heap.size (fun _=>True) v0_ r∧Below w.heap.size w w':=by
 have HB:=Zk (Below.refl w.heap.size w);have H:(Qb7.l0 k a0 (([] :List Int)) 0)=some r:=h;clear h;obtain ⟨y161,hy161⟩: ∃ y_:List Int,y_=(([] :List Int)):=⟨_,rfl⟩
 replace H:(Qb7.l0 k a0 y161 0)=some r:=by first|(rw [hy161];with_reducible exact H)|(have H2_:=(Option.bind_some _ _).symm.trans H;rw [hy161];with_reducible exact H2_)|(have H2_:=(Option.bind_some _ _).symm.trans H;with_reducible exact H2_)|with_reducible exact H|(rw [hy161];exact H)|exact H
 have Ny161:=Zk hy161;clear hy161;have H':=Zk H;clear H;go_enter Tryz.func277,Tryz.ntmps277;go_wp2_with (first|((with_reducible refine Qu (N:=5) rfl ?_);refine Kd.R_lit (Kd.int .i64) _ 3 ?hg (N:=5) ?hd (xs:=([] :List Int)) (inner:= []) (ok:=fun _=>True) (okp:=fun _=>True) ?hr ?hp (fun _ hk=>hk) trivial (Below.refl _ _) (Nat.le_refl _) (by simp) ?_;(case hd=>rfl);(case hg=>rfl);(case hr=>first|(go_simp;done)|(go_simp;rfl));(case hp=>exact (Reps.none _ _));intro v162 w2 ho3 hb hg_ hnew_;clear hg_ hnew_;(first|rw [←Ny161.out] at ho3|(simp only [Int.reduceToNat] at ho3;rw [←Ny161.out] at ho3));have HO163:=Zk (Kd.R_lower ho3 (Qh (uB HB)));replace HB:=Zk (Qb (uB HB) hb);clear hb ho3))
 go_loopg [3,6] k (fun kq v3 v6 w'=> ∃ (x3_1:List Int) (x6_1:Int),v6= .int .i64 x6_1∧Z0 (Qb7.l0 kq a0 x3_1 x6_1=some r)∧Z0 (kq≤k)∧Z0 (Kd.R (Kd.int .i64) 3 w' w.heap.size (fun _=>True) v3 x3_1)∧Z0 (Below w.heap.size w w'))
 case atStart=>exact ⟨(y161),(0),(by first|rfl|(simp;done)|(simp [*];done)),H',⟨Nat.le_refl _⟩,⟨uR HO163⟩,⟨uB HB⟩⟩
 case round=>
  clear H'
  skip
  obtain ⟨x3_1,x6_1,rfl,HA,HK1,HO_3,HB⟩:=hrel;cases gk with
  |zero=>exact absurd HA.out (by simp [Qb7.l0])
  |succ k1=>
   have H:=HA.out;clear HA;simp only [Qb7.l0] at H
   by_cases c4:x6_1<10
   ·
    rw [if_pos c4] at H;have c4b0:=decide_eq_true c4;clear c4;obtain ⟨t164,A5,H⟩:=bs H;(try dsimp only at H)
    by_cases c6:t164=true
    ·
     subst c6;rw [if_pos rfl] at H
     by_cases c7:x3_1.length<17592186044416
     ·
      rw [if_pos c7] at H;have LMc7:=Zk c7;clear c7;obtain ⟨y165,hy165⟩: ∃ y_:List Int,y_=(x3_1++ [x6_1]):=⟨_,rfl⟩
      replace H:(Qb7.l0 k1 a0 y165 (wrap64 (x6_1+1)))=some r:=by first|(rw [hy165];with_reducible exact H)|(have H2_:=(Option.bind_some _ _).symm.trans H;rw [hy165];with_reducible exact H2_)|(have H2_:=(Option.bind_some _ _).symm.trans H;with_reducible exact H2_)|with_reducible exact H|(rw [hy165];exact H)|exact H
      have Ny165:=Zk hy165;clear hy165;have H':=Zk H;clear H;go_wp2_with (first|(refine gA (some 11) Tryz.func294 #[.int .i64 a0, .int .i64 x6_1] ?_;(with_reducible refine (Qeu.calls a0 x6_1 true _ A5.out).mono ?_);rintro e w' ⟨rfl,⟨nd,rfl⟩⟩;refine ⟨_,rfl,?_⟩)|((with_reducible refine Qb1 (b:= .append) (xs:= #[.tmp 12, .tmp 14]) rfl ?_);at_builtin;refine Kd.R_append (Kd.int .i64) (w0:=w) w.heap.size rfl (.tmp 12) (.tmp 14) 24 3 (.int .i64 0) 8 rfl Tryz.underlying24 Qdq rfl (by decide) (by omega) u3 x3_1 x6_1 [.int .i64 x6_1] (fun _=>True) (fun _=>False) rfl rfl ?aP (fun _ hk=>hk.elim) ?aF ?aO ?aB ?aS ?aL ?_;(case aP=>exact rfl);(case aB=>exact (uB HB));(case aF=>exact (fun _ _=>trivial));(case aO=>exact (uR HO_3));(case aS=>exact (Qh (uB HB)));(case aL=>have:=LMc7.out;omega);intro v166 w8 ho hb hg hat;rw [←Ny165.out] at ho;replace HB:=Zk (hb);have HO167:=Zk (ho);clear HO_3;clear ho hb hg hat));go_roundg k1
      case measure=>have:=HK1.out;omega
      case rel=>exact ⟨(y165),(wrap64 (x6_1+1)),(by first|rfl|(simp;done)|(simp [*];done)),H',⟨by have:=HK1.out;omega⟩,⟨uR HO167⟩,⟨uB HB⟩⟩
     ·
      rw [if_neg c7] at H;exact absurd H (by simp)
    ·
     replace c6:=Bool.eq_false_iff.mpr c6;subst c6;rw [if_neg (show ¬ (false=true) by decide)] at H;have H':=Zk H;clear H;go_wp2_with (first|(refine gA (some 11) Tryz.func294 #[.int .i64 a0, .int .i64 x6_1] ?_;(with_reducible refine (Qeu.calls a0 x6_1 false _ A5.out).mono ?_);rintro e w' ⟨rfl,⟨nd,rfl⟩⟩;refine ⟨_,rfl,?_⟩));go_roundg k1
     case measure=>have:=HK1.out;omega
     case rel=>exact ⟨(x3_1),(wrap64 (x6_1+1)),(by first|rfl|(simp;done)|(simp [*];done)),H',⟨by have:=HK1.out;omega⟩,⟨uR HO_3⟩,⟨uB HB⟩⟩
   ·
    rw [if_neg c4] at H;have c4b0:=decide_eq_false c4;clear c4;obtain rfl:=Option.some.inj H;go_wp2
    go_ret
    exact ⟨_,by first|rfl|(simp [Qe,Qf] <;>rfl)|(simp [*,Qe,Qf] <;>rfl),uR HO_3,uB HB⟩
mutual
def Qb2.l0:Nat→List Int→Int→Int→List Int→Option (Bool)
 |0,_,_,_,_=>none
 |k+1,x12,x13,x14,x169000=>if x14<x13 then (if 0≤x14 then (if x14<(x12.length:Int) then ((Qbv.f (rd x12 x14) 0 (wrap64 ((shl .i64 1 x14) - 1))).bind fun t172=>(if t172=true then ((Qb7.f k (rd x12 x14)).bind fun t173=>(Qb2.l1 k (rd x12 x14) x12 x13 x14 t173 (t173.length:Int) 0 x169000)) else (some false))) else (none)) else (none)) else (some true)
def Qb2.l1:Nat→Int→List Int→Int→Int→List Int→Int→Int→List Int→Option (Bool)
 |0,_,_,_,_,_,_,_,_=>none
 |k+1,x4,x12,x13,x14,x26,x27,x28,x169000=>if x28<x27 then (if 0≤x28 then (if x28<(x26.length:Int) then (if 0≤(rd x26 x28) then (if (rd x26 x28)<(x169000.length:Int) then (if (Go.bits .andNot .i64 (rd x169000 (rd x26 x28)) x4)=0 then (Qb2.l1 k x4 x12 x13 x14 x26 x27 (wrap64 (x28+1)) x169000) else (some false)) else (none)) else (none)) else (none)) else (none)) else (Qb2.l0 k x12 x13 (wrap64 (x14+1)) x169000)
end
def Qb2.f (k:Nat) (l0_0:List Int):Option (Bool):=(Qef.f l0_0).bind fun t169=>((Qbv.f t169 1 10).bind fun t170=>(if t170=true then (Qb2.l0 k l0_0 (l0_0.length:Int) 0 l0_0) else (some false)))
theorem Qb2.mono_l: ∀ k,(∀ y0 y1 y2 y3,LeO (Qb2.l0 k y0 y1 y2 y3) (Qb2.l0 (k+1) y0 y1 y2 y3))∧(∀ y0 y1 y2 y3 y4 y5 y6 y7,LeO (Qb2.l1 k y0 y1 y2 y3 y4 y5 y6 y7) (Qb2.l1 (k+1) y0 y1 y2 y3 y4 y5 y6 y7))
 |0=>⟨fun _ _ _ _ r h=>by simp [Qb2.l0] at h,fun _ _ _ _ _ _ _ _ r h=>by simp [Qb2.l1] at h⟩
 |k+1=>by
  obtain ⟨ih0,ih1⟩:=Qb2.mono_l k;refine ⟨?_,?_⟩
  all_goals
   intros
   first|unfold Qb2.l0|unfold Qb2.l1
   repeat' (with_reducible first|apply ih0|apply ih1|apply Qb7.mono|exact LeO.refl _|exact LeO.none _|refine LeO.ite ?_ ?_|refine LeO.bind ?_ (fun _=> ?_))
theorem Qb2.mono: ∀ a0 k,LeO (Qb2.f k a0) (Qb2.f (k+1) a0):=by
 intro a0 k;obtain ⟨ih0,ih1⟩:=Qb2.mono_l k;unfold Qb2.f
 repeat' (with_reducible first|apply ih0|apply ih1|apply Qb7.mono|exact LeO.refl _|exact LeO.none _|refine LeO.ite ?_ ?_|refine LeO.bind ?_ (fun _=> ?_))
set_option maxHeartbeats 8000000 in
set_option maxRecDepth 100000 in
theorem Qb2.calls (k:Nat) (A0_0:Option Addr) (c0_0:Nat) (l0_0:List Int) (r:Bool) (w:World) (hr0_0:Kd.C (Kd.int .i64) w A0_0 l0_0.length l0_0) (hc0_0:l0_0.length≤c0_0) (h:Qb2.f k l0_0=some r):
 Calls Tryz.prog 178 #[.agg #[.slice A0_0 l0_0.length c0_0]] w fun e w'=>e= .returned (.bool r)∧Below w.heap.size w w':=by
 have hu26:=Tryz.underlying26;have HR0_0:=Zk hr0_0;have HC0_0:=Zk hc0_0;clear hr0_0 hc0_0;have HB:=Zk (Below.refl w.heap.size w);have H:((Qef.f l0_0).bind fun t169=>((Qbv.f t169 1 10).bind fun t170=>(if t170=true then (Qb2.l0 k l0_0 (l0_0.length:Int) 0 l0_0) else (some false))))=some r:=h;clear h;obtain ⟨t169,A2,H⟩:=bs H;(try dsimp only at H)
 obtain ⟨t170,A3,H⟩:=bs H;(try dsimp only at H)
 by_cases c4:t170=true
 ·
  subst c4;rw [if_pos rfl] at H;have H':=Zk H;clear H;go_enter Tryz.func178,Tryz.ntmps178;go_wp2_with (first|(refine bE (N:=1) (cs:= #[.slice A0_0 l0_0.length c0_0]) (t:=26) ?_;intro gb168 hg w5 hbox hb;have BK168:=Zk (hbox);have GW168:=Zk ((by rw [hg];exact (Qh (uB HB)):w.heap.size≤gb168));have GE168:=GW168;replace HB:=Zk (Qb (uB HB) hb);clear hb hbox hg;have hcz6_0:=bC BK168;have hfz6_0:=Q6 BK168.out 0)|(refine gA (some 8) Tryz.func244 #[.agg #[.slice A0_0 l0_0.length c0_0]] ?_;(with_reducible refine (Qef.calls _ _ l0_0 t169 _ (uD HR0_0 HB) HC0_0.out A2.out).mono ?_);rintro e w7 ⟨rfl,hb⟩;refine ⟨_,rfl,?_⟩;replace BK168:=Zk (Qbg (uK BK168) hb);replace HB:=Zk (Qb (vB HB) hb);(try clear hb))|(refine gA (some 9) Tryz.func159 #[.int .i64 t169, .int .i64 1, .int .i64 10] ?_;(with_reducible refine (Qbv.calls t169 1 10 true _ A3.out).mono ?_);rintro e w' ⟨rfl,⟨nd,rfl⟩⟩;refine ⟨_,rfl,?_⟩;have hcz8_0:=bC BK168;have hfz8_0:=Q6 BK168.out 0))
  go_loopg [14] k (fun kq v14 w'=> ∃ (x14_1:Int),v14= .int .i64 x14_1∧Z0 (Qb2.l0 kq l0_0 (l0_0.length:Int) x14_1 l0_0=some r)∧Z0 (kq≤k)∧Z0 (w'.heap[gb168]? =some (.cells #[(.slice A0_0 l0_0.length c0_0)] 26 (0,0)))∧Z0 (Below w.heap.size w w'))
  case atStart=>exact ⟨(0),(by first|rfl|(simp;done)|(simp [*];done)),H',⟨Nat.le_refl _⟩,⟨uK BK168⟩,⟨(vB HB)⟩⟩
  case round=>
   clear H'
   try clear hcz6_0 hcz8_0 hfz6_0 hfz8_0
   obtain ⟨x14_1,rfl,HA,HK1,BK168,HB⟩:=hrel;cases gk with
   |zero=>exact absurd HA.out (by simp [Qb2.l0])
   |succ k1=>
    have H:=HA.out;clear HA;simp only [Qb2.l0] at H
    by_cases c9:x14_1<(l0_0.length:Int)
    ·
     rw [if_pos c9] at H;have c9b0:=decide_eq_true c9;clear c9
     by_cases c10:0≤x14_1
     ·
      rw [if_pos c10] at H;have c10b0:=decide_eq_true c10;clear c10
      by_cases c11:x14_1<(l0_0.length:Int)
      ·
       rw [if_pos c11] at H;have c11b0:=decide_eq_true c11;clear c11;have c12b0:=eq_true (of_decide_eq_true (by first|(with_reducible assumption)|assumption):0≤x14_1);obtain ⟨ji13,hji13⟩: ∃ j_:Int,(shl .i64 1 x14_1)=j_:=⟨_,rfl⟩
       replace H:((Qbv.f (rd l0_0 x14_1) 0 (wrap64 ((ji13) - 1))).bind fun t172=>(if t172=true then ((Qb7.f k1 (rd l0_0 x14_1)).bind fun t173=>(Qb2.l1 k1 (rd l0_0 x14_1) l0_0 (l0_0.length:Int) x14_1 t173 (t173.length:Int) 0 l0_0)) else (some false)))=some r:=by first|(rw [hji13] at H;exact H)|(simp only [hji13] at H ⊢;exact H)
       have hji13_:(IntKind.i64.wrap (1*2 ^ min x14_1.toNat 64))=ji13:=hji13;have hji13z:x14_1≤64→(IntKind.i64.wrap (1*2 ^ x14_1.toNat))=ji13:=Qea hji13;have hji13u:(IntKind.i64.wrap (2 ^ min x14_1.toNat 64))=ji13:=by have h_:=hji13_;rw [Int.one_mul] at h_;exact h_
       have hji13v:x14_1≤64→(IntKind.i64.wrap (2 ^ x14_1.toNat))=ji13:=fun hle_=>by have h_:=hji13z hle_;rw [Int.one_mul] at h_;exact h_
       have hji13y:(wrap64 (1*2 ^ min x14_1.toNat 64))=ji13:=(Qcm _).symm.trans hji13_;have hji13x:x14_1≤64→(wrap64 (1*2 ^ x14_1.toNat))=ji13:=fun h_=>(Qcm _).symm.trans (hji13z h_)
       obtain ⟨t172,A14,H⟩:=bs H;(try dsimp only at H)
       by_cases c15:t172=true
       ·
        subst c15;rw [if_pos rfl] at H;obtain ⟨t173,A16,H⟩:=bs H;(try dsimp only at H)
        have H':=Zk H;clear H;have p171:0≤(x14_1:Int):=of_decide_eq_true (by first|(with_reducible assumption)|assumption);have q171:x14_1<(l0_0.length:Int):=of_decide_eq_true (by first|(with_reducible assumption)|assumption);obtain ⟨ad171,e171,hx171_0⟩:=Kd.at_int HR0_0.out x14_1 p171 q171;cases e171;replace hx171_0:=(HB.out.cell (World.block_lt_of_cell? w _ hx171_0)).trans hx171_0;replace p171:=eq_true p171;replace q171:=eq_true q171;go_wp2_with (first|((with_reducible refine Qc5 (f:=159) rfl ?_);refine Qd3 (some 23) rfl rfl Tryz.func159 (by kernel_rfl) rfl #[.int .i64 (rd l0_0 x14_1), .int .i64 0, .int .i64 (wrap64 ((ji13) - 1))] rfl (by (try simp only [List.map_toArray,List.map_cons,List.map_nil]);first|done|(simp only [hji13];rfl)|rfl|(simp only [List.length_drop,List.length_take];rfl)) ?_;(with_reducible refine (Qbv.calls (rd l0_0 x14_1) 0 (wrap64 ((ji13) - 1)) true _ A14.out).mono ?_);rintro e w' ⟨rfl,⟨nd,rfl⟩⟩;refine ⟨_,rfl,?_⟩)|(refine gA (some 26) Tryz.func277 #[.int .i64 (rd l0_0 x14_1)] ?_;(with_reducible refine (Qb7.calls k1 (rd l0_0 x14_1) t173 _ A16.out).mono ?_);rintro e w17 ⟨v174,rfl,ho0,hb⟩;refine ⟨_,rfl,?_⟩;have HO175:=Zk (Kd.R_lower ho0 (Qh (vB HB)));replace BK168:=Zk (Qbg (uK BK168) hb);replace HB:=Zk (Qb (vB HB) hb);(try clear hb ho0);obtain ⟨Ao18,co18,eo18⟩:=Kd.R_slice HO175.out;subst eo18))
        go_loopg [28] k1 (fun kq v28 w'=> ∃ (x28_2:Int),v28= .int .i64 x28_2∧Z0 (Qb2.l1 kq (rd l0_0 x14_1) l0_0 (l0_0.length:Int) x14_1 t173 (t173.length:Int) x28_2 l0_0=some r)∧Z0 (kq≤k1)∧Z0 (Kd.R (Kd.int .i64) 3 w' w.heap.size (fun _=>True) (.slice Ao18 t173.length co18) t173)∧Z0 (w'.heap[gb168]? =some (.cells #[(.slice (some ad171) l0_0.length c0_0)] 26 (0,0)))∧Z0 (Below w.heap.size w w'))
        case atStart=>exact ⟨(0),(by first|rfl|(simp;done)|(simp [*];done)),H',⟨Nat.le_refl _⟩,⟨uR HO175⟩,⟨uK BK168⟩,⟨(vB HB)⟩⟩
        case round=>
         clear H'
         try clear c9b0 c10b0 c11b0 c12b0 hx171_0 p171 q171
         obtain ⟨x28_2,rfl,HA,HK2,HO_26,BK168,HB⟩:=hrel;cases gk with
         |zero=>exact absurd HA.out (by simp [Qb2.l1])
         |succ k2=>
          have H:=HA.out;clear HA;simp only [Qb2.l1] at H
          by_cases c19:x28_2<(t173.length:Int)
          ·
           rw [if_pos c19] at H;have c19b0:=decide_eq_true c19;clear c19
           by_cases c20:0≤x28_2
           ·
            rw [if_pos c20] at H;have c20b0:=decide_eq_true c20;clear c20
            by_cases c21:x28_2<(t173.length:Int)
            ·
             rw [if_pos c21] at H;have c21b0:=decide_eq_true c21;clear c21
             by_cases c22:0≤(rd t173 x28_2)
             ·
              rw [if_pos c22] at H;have c22b0:=decide_eq_true c22;clear c22
              by_cases c23:(rd t173 x28_2)<(l0_0.length:Int)
              ·
               rw [if_pos c23] at H;have c23b0:=decide_eq_true c23;clear c23
               by_cases c24:(Go.bits .andNot .i64 (rd l0_0 (rd t173 x28_2)) (rd l0_0 x14_1))=0
               ·
                rw [if_pos c24] at H;have c24b0:((Go.bits .andNot .i64 (rd l0_0 (rd t173 x28_2)) (rd l0_0 x14_1))==0)=true:=beq_iff_eq.mpr c24;have c24b1:((Go.bits .andNot .i64 (rd l0_0 (rd t173 x28_2)) (rd l0_0 x14_1)) !=0)=false:=bne_eq_false_iff_eq.mpr c24;clear c24;have H':=Zk H;clear H;have p176:0≤(x28_2:Int):=of_decide_eq_true (by first|(with_reducible assumption)|assumption);have q176:x28_2<(t173.length:Int):=of_decide_eq_true (by first|(with_reducible assumption)|assumption);obtain ⟨ad176,e176,hx176_0⟩:=Kd.at_int (Kd.R_reads' HO_26.out).2.2 x28_2 p176 q176;cases e176;replace p176:=eq_true p176;replace q176:=eq_true q176;have hcz25_0:=bC BK168;have hfz25_0:=Q6 BK168.out 0;have p177:0≤((rd t173 x28_2):Int):=of_decide_eq_true (by first|(with_reducible assumption)|assumption);have q177:(rd t173 x28_2)<(l0_0.length:Int):=of_decide_eq_true (by first|(with_reducible assumption)|assumption);obtain ⟨ad177,e177,hx177_0⟩:=Kd.at_int HR0_0.out (rd t173 x28_2) p177 q177;obtain rfl:ad171=ad177:=(by injection e177)
                replace hx177_0:=(HB.out.cell (World.block_lt_of_cell? w _ hx177_0)).trans hx177_0;replace p177:=eq_true p177;replace q177:=eq_true q177;go_wp2;go_roundg k2
                case measure=>have:=HK1.out;have:=HK2.out;omega
                case rel=>exact ⟨(wrap64 (x28_2+1)),(by first|rfl|(simp;done)|(simp [*];done)),H',⟨by have:=HK1.out;have:=HK2.out;omega⟩,⟨uR HO_26⟩,⟨uK BK168⟩,⟨(vB HB)⟩⟩
               ·
                rw [if_neg c24] at H;have c24b0:((Go.bits .andNot .i64 (rd l0_0 (rd t173 x28_2)) (rd l0_0 x14_1))==0)=false:=beq_eq_false_iff_ne.mpr c24;have c24b1:((Go.bits .andNot .i64 (rd l0_0 (rd t173 x28_2)) (rd l0_0 x14_1)) !=0)=true:=bne_iff_ne.mpr c24;obtain rfl:=Option.some.inj H;have p176:0≤(x28_2:Int):=of_decide_eq_true (by first|(with_reducible assumption)|assumption);have q176:x28_2<(t173.length:Int):=of_decide_eq_true (by first|(with_reducible assumption)|assumption);obtain ⟨ad176,e176,hx176_0⟩:=Kd.at_int (Kd.R_reads' HO_26.out).2.2 x28_2 p176 q176;cases e176;replace p176:=eq_true p176;replace q176:=eq_true q176;have hcz26_0:=bC BK168;have hfz26_0:=Q6 BK168.out 0;have p177:0≤((rd t173 x28_2):Int):=of_decide_eq_true (by first|(with_reducible assumption)|assumption);have q177:(rd t173 x28_2)<(l0_0.length:Int):=of_decide_eq_true (by first|(with_reducible assumption)|assumption);obtain ⟨ad177,e177,hx177_0⟩:=Kd.at_int HR0_0.out (rd t173 x28_2) p177 q177;obtain rfl:ad171=ad177:=(by injection e177)
                replace hx177_0:=(HB.out.cell (World.block_lt_of_cell? w _ hx177_0)).trans hx177_0;replace p177:=eq_true p177;replace q177:=eq_true q177;go_wp2
                go_ret
                exact ⟨by first|rfl|(simp [Qe,Qf] <;>rfl)|(simp only [←hji13];first|rfl|(simp [Qe,Qf] <;>rfl))|(simp [*,Qe,Qf] <;>rfl),(vB HB)⟩
              ·
               rw [if_neg c23] at H;exact absurd H (by simp)
             ·
              rw [if_neg c22] at H;exact absurd H (by simp)
            ·
             rw [if_neg c21] at H;exact absurd H (by simp)
           ·
            rw [if_neg c20] at H;exact absurd H (by simp)
          ·
           rw [if_neg c19] at H;have c19b0:=decide_eq_false c19;clear c19;have H':=Zk H;clear H;go_wp2;go_roundg k2
           case measure=>have:=HK1.out;have:=HK2.out;omega
           case rel=>exact ⟨(wrap64 (x14_1+1)),(by first|rfl|(simp;done)|(simp [*];done)),H',⟨by have:=HK1.out;have:=HK2.out;omega⟩,⟨uK BK168⟩,⟨(vB HB)⟩⟩
       ·
        replace c15:=Bool.eq_false_iff.mpr c15;subst c15;rw [if_neg (show ¬ (false=true) by decide)] at H;obtain rfl:=Option.some.inj H;have p171:0≤(x14_1:Int):=of_decide_eq_true (by first|(with_reducible assumption)|assumption);have q171:x14_1<(l0_0.length:Int):=of_decide_eq_true (by first|(with_reducible assumption)|assumption);obtain ⟨ad171,e171,hx171_0⟩:=Kd.at_int HR0_0.out x14_1 p171 q171;cases e171;replace hx171_0:=(HB.out.cell (World.block_lt_of_cell? w _ hx171_0)).trans hx171_0;replace p171:=eq_true p171;replace q171:=eq_true q171;go_wp2_with (first|((with_reducible refine Qc5 (f:=159) rfl ?_);refine Qd3 (some 23) rfl rfl Tryz.func159 (by kernel_rfl) rfl #[.int .i64 (rd l0_0 x14_1), .int .i64 0, .int .i64 (wrap64 ((ji13) - 1))] rfl (by (try simp only [List.map_toArray,List.map_cons,List.map_nil]);first|done|(simp only [hji13];rfl)|rfl|(simp only [List.length_drop,List.length_take];rfl)) ?_;(with_reducible refine (Qbv.calls (rd l0_0 x14_1) 0 (wrap64 ((ji13) - 1)) false _ A14.out).mono ?_);rintro e w' ⟨rfl,⟨nd,rfl⟩⟩;refine ⟨_,rfl,?_⟩))
        go_ret
        exact ⟨by first|rfl|(simp [Qe,Qf] <;>rfl)|(simp only [←hji13];first|rfl|(simp [Qe,Qf] <;>rfl))|(simp [*,Qe,Qf] <;>rfl),(vB HB)⟩
      ·
       rw [if_neg c11] at H;exact absurd H (by simp)
     ·
      rw [if_neg c10] at H;exact absurd H (by simp)
    ·
     rw [if_neg c9] at H;have c9b0:=decide_eq_false c9;clear c9;obtain rfl:=Option.some.inj H;go_wp2
     go_ret
     exact ⟨by first|rfl|(simp [Qe,Qf] <;>rfl)|(simp [*,Qe,Qf] <;>rfl),(vB HB)⟩
 ·
  replace c4:=Bool.eq_false_iff.mpr c4;subst c4;rw [if_neg (show ¬ (false=true) by decide)] at H;obtain rfl:=Option.some.inj H;go_enter Tryz.func178,Tryz.ntmps178;go_wp2_with (first|(refine bE (N:=1) (cs:= #[.slice A0_0 l0_0.length c0_0]) (t:=26) ?_;intro gb168 hg w27 hbox hb;have BK168:=Zk (hbox);have GW168:=Zk ((by rw [hg];exact (Qh (uB HB)):w.heap.size≤gb168));have GE168:=GW168;replace HB:=Zk (Qb (uB HB) hb);clear hb hbox hg;have hcz28_0:=bC BK168;have hfz28_0:=Q6 BK168.out 0)|(refine gA (some 8) Tryz.func244 #[.agg #[.slice A0_0 l0_0.length c0_0]] ?_;(with_reducible refine (Qef.calls _ _ l0_0 t169 _ (uD HR0_0 HB) HC0_0.out A2.out).mono ?_);rintro e w29 ⟨rfl,hb⟩;refine ⟨_,rfl,?_⟩;replace BK168:=Zk (Qbg (uK BK168) hb);replace HB:=Zk (Qb (vB HB) hb);(try clear hb))|(refine gA (some 9) Tryz.func159 #[.int .i64 t169, .int .i64 1, .int .i64 10] ?_;(with_reducible refine (Qbv.calls t169 1 10 false _ A3.out).mono ?_);rintro e w' ⟨rfl,⟨nd,rfl⟩⟩;refine ⟨_,rfl,?_⟩))
  go_ret
  exact ⟨by first|rfl|(simp [Qe,Qf] <;>rfl)|(simp [*,Qe,Qf] <;>rfl),(vB HB)⟩
def Qch.f (l0_0:List Int):Option (Int):=(Qef.f l0_0).bind fun t185=>(if 0≤t185 then (some (wrap64 ((shl .i64 1 t185) - 1))) else (none))
set_option maxHeartbeats 8000000 in
set_option maxRecDepth 100000 in
theorem Qch.calls (A0_0:Option Addr) (c0_0:Nat) (l0_0:List Int) (r:Int) (w:World) (hr0_0:Kd.C (Kd.int .i64) w A0_0 l0_0.length l0_0) (hc0_0:l0_0.length≤c0_0) (h:Qch.f l0_0=some r):
 Calls Tryz.prog 290 #[.agg #[.slice A0_0 l0_0.length c0_0]] w fun e w'=>e= .returned (.int .i64 r)∧Below w.heap.size w w':=by
 have hu26:=Tryz.underlying26;have HR0_0:=Zk hr0_0;have HC0_0:=Zk hc0_0;clear hr0_0 hc0_0;have HB:=Zk (Below.refl w.heap.size w);have H:((Qef.f l0_0).bind fun t185=>(if 0≤t185 then (some (wrap64 ((shl .i64 1 t185) - 1))) else (none)))=some r:=h;clear h;obtain ⟨t185,A2,H⟩:=bs H;(try dsimp only at H)
 by_cases c3:0≤t185
 ·
  rw [if_pos c3] at H;have c3b0:=eq_true c3;have c3b1:=decide_eq_true c3;clear c3;obtain ⟨ji4,hji4⟩: ∃ j_:Int,(shl .i64 1 t185)=j_:=⟨_,rfl⟩
  replace H:(some (wrap64 ((ji4) - 1)))=some r:=by first|(rw [hji4] at H;exact H)|(simp only [hji4] at H ⊢;exact H)
  (try rw [hji4] at A2)
  have hji4_:(IntKind.i64.wrap (1*2 ^ min t185.toNat 64))=ji4:=hji4;have hji4z:t185≤64→(IntKind.i64.wrap (1*2 ^ t185.toNat))=ji4:=Qea hji4;have hji4u:(IntKind.i64.wrap (2 ^ min t185.toNat 64))=ji4:=by have h_:=hji4_;rw [Int.one_mul] at h_;exact h_
  have hji4v:t185≤64→(IntKind.i64.wrap (2 ^ t185.toNat))=ji4:=fun hle_=>by have h_:=hji4z hle_;rw [Int.one_mul] at h_;exact h_
  have hji4y:(wrap64 (1*2 ^ min t185.toNat 64))=ji4:=(Qcm _).symm.trans hji4_;have hji4x:t185≤64→(wrap64 (1*2 ^ t185.toNat))=ji4:=fun h_=>(Qcm _).symm.trans (hji4z h_)
  obtain rfl:=Option.some.inj H;go_enter Tryz.func290,Tryz.ntmps290;go_wp2_with (first|(refine bE (N:=1) (cs:= #[.slice A0_0 l0_0.length c0_0]) (t:=26) ?_;intro gb184 hg w5 hbox hb;have BK184:=Zk (hbox);have GW184:=Zk ((by rw [hg];exact (Qh (uB HB)):w.heap.size≤gb184));have GE184:=GW184;replace HB:=Zk (Qb (uB HB) hb);clear hb hbox hg;have hcz6_0:=bC BK184;have hfz6_0:=Q6 BK184.out 0)|(refine gA (some 4) Tryz.func244 #[.agg #[.slice A0_0 l0_0.length c0_0]] ?_;(with_reducible refine (Qef.calls _ _ l0_0 t185 _ (uD HR0_0 HB) HC0_0.out A2.out).mono ?_);rintro e w7 ⟨rfl,hb⟩;refine ⟨_,rfl,?_⟩;replace BK184:=Zk (Qbg (uK BK184) hb);replace HB:=Zk (Qb (vB HB) hb);(try clear hb)))
  go_ret
  exact ⟨by first|rfl|(simp [Qe,Qf] <;>rfl)|(simp only [←hji4];first|rfl|(simp [Qe,Qf] <;>rfl))|(simp [*,Qe,Qf] <;>rfl),(vB HB)⟩
 ·
  rw [if_neg c3] at H;exact absurd H (by simp)
def Qb9.l0:Nat→Int→List Int→Int→Int→List Int→Option (Int)
 |0,_,_,_,_,_=>none
 |k+1,x5,x10,x11,x12,x179000=>if x12<x11 then (if 0≤x12 then (if x12<(x10.length:Int) then (if 0≤(rd x10 x12) then (if (rd x10 x12)<(x179000.length:Int) then (Qb9.l0 k (Go.bits .or .i64 x5 (rd x179000 (rd x10 x12))) x10 x11 (wrap64 (x12+1)) x179000) else (none)) else (none)) else (none)) else (none)) else (some x5)
def Qb9.f (k:Nat) (l0_0:List Int) (a1:Int):Option (Int):=(Qb7.f k a1).bind fun t179=>(Qb9.l0 k a1 t179 (t179.length:Int) 0 l0_0)
theorem Qb9.mono_l: ∀ k,(∀ y0 y1 y2 y3 y4,LeO (Qb9.l0 k y0 y1 y2 y3 y4) (Qb9.l0 (k+1) y0 y1 y2 y3 y4))
 |0=>fun _ _ _ _ _ r h=>by simp [Qb9.l0] at h
 |k+1=>by
  have ih0:=Qb9.mono_l k
  ·
   intro y0 y1 y2 y3 y4;unfold Qb9.l0
   repeat' first
   |(with_reducible exact ih0 _ _ _ _ _)
   |(with_reducible exact Qb7.mono _ _)
   |(with_reducible exact LeO.refl _)
   |(with_reducible exact LeO.none _)
   |(with_reducible refine LeO.ite ?_ ?_)
   |(with_reducible refine LeO.bind ?_ (fun _=> ?_))
   |exact ih0 _ _ _ _ _
   |exact Qb7.mono _ _
   |exact LeO.none _
   |refine LeO.ite ?_ ?_
   |refine LeO.bind ?_ (fun _=> ?_)
theorem Qb9.mono: ∀ a0 a1 k,LeO (Qb9.f k a0 a1) (Qb9.f (k+1) a0 a1):=by
 intro a0 a1 k;have ih0:=Qb9.mono_l k;unfold Qb9.f
 repeat' (with_reducible first|apply ih0|apply Qb7.mono|exact LeO.refl _|exact LeO.none _|refine LeO.ite ?_ ?_|refine LeO.bind ?_ (fun _=> ?_))
set_option maxHeartbeats 8000000 in
set_option maxRecDepth 100000 in
theorem Qb9.calls (k:Nat) (A0_0:Option Addr) (c0_0:Nat) (l0_0:List Int) (a1:Int) (r:Int) (w:World) (hr0_0:Kd.C (Kd.int .i64) w A0_0 l0_0.length l0_0) (hc0_0:l0_0.length≤c0_0) (h:Qb9.f k l0_0 a1=some r):
 Calls Tryz.prog 283 #[.agg #[.slice A0_0 l0_0.length c0_0], .int .i64 a1] w fun e w'=>e= .returned (.int .i64 r)∧Below w.heap.size w w':=by
 have hu26:=Tryz.underlying26;have HR0_0:=Zk hr0_0;have HC0_0:=Zk hc0_0;clear hr0_0 hc0_0;have HB:=Zk (Below.refl w.heap.size w);have H:((Qb7.f k a1).bind fun t179=>(Qb9.l0 k a1 t179 (t179.length:Int) 0 l0_0))=some r:=h;clear h;obtain ⟨t179,A3,H⟩:=bs H;(try dsimp only at H)
 have H':=Zk H;clear H;go_enter Tryz.func283,Tryz.ntmps283;go_wp2_with (first|(refine bE (N:=2) (cs:= #[.slice A0_0 l0_0.length c0_0]) (t:=26) ?_;intro gb178 hg w4 hbox hb;have BK178:=Zk (hbox);have GW178:=Zk ((by rw [hg];exact (Qh (uB HB)):w.heap.size≤gb178));have GE178:=GW178;replace HB:=Zk (Qb (uB HB) hb);clear hb hbox hg)|(refine gA (some 10) Tryz.func277 #[.int .i64 a1] ?_;(with_reducible refine (Qb7.calls k a1 t179 _ A3.out).mono ?_);rintro e w5 ⟨v180,rfl,ho0,hb⟩;refine ⟨_,rfl,?_⟩;have HO181:=Zk (Kd.R_lower ho0 (Qh (vB HB)));replace BK178:=Zk (Qbg (uK BK178) hb);replace HB:=Zk (Qb (vB HB) hb);(try clear hb ho0);obtain ⟨Ao6,co6,eo6⟩:=Kd.R_slice HO181.out;subst eo6))
 go_loopg [5,12] k (fun kq v5 v12 w'=> ∃ (x5_1:Int) (x12_1:Int),v5= .int .i64 x5_1∧v12= .int .i64 x12_1∧Z0 (Qb9.l0 kq x5_1 t179 (t179.length:Int) x12_1 l0_0=some r)∧Z0 (kq≤k)∧Z0 (Kd.R (Kd.int .i64) 3 w' w.heap.size (fun _=>True) (.slice Ao6 t179.length co6) t179)∧Z0 (w'.heap[gb178]? =some (.cells #[(.slice A0_0 l0_0.length c0_0)] 26 (0,0)))∧Z0 (Below w.heap.size w w'))
 case atStart=>exact ⟨(a1),(0),(by first|rfl|(simp;done)|(simp [*];done)),(by first|rfl|(simp;done)|(simp [*];done)),H',⟨Nat.le_refl _⟩,⟨uR HO181⟩,⟨uK BK178⟩,⟨(vB HB)⟩⟩
 case round=>
  clear H'
  skip
  obtain ⟨x5_1,x12_1,rfl,rfl,HA,HK1,HO_10,BK178,HB⟩:=hrel;cases gk with
  |zero=>exact absurd HA.out (by simp [Qb9.l0])
  |succ k1=>
   have H:=HA.out;clear HA;simp only [Qb9.l0] at H
   by_cases c7:x12_1<(t179.length:Int)
   ·
    rw [if_pos c7] at H;have c7b0:=decide_eq_true c7;clear c7
    by_cases c8:0≤x12_1
    ·
     rw [if_pos c8] at H;have c8b0:=decide_eq_true c8;clear c8
     by_cases c9:x12_1<(t179.length:Int)
     ·
      rw [if_pos c9] at H;have c9b0:=decide_eq_true c9;clear c9
      by_cases c10:0≤(rd t179 x12_1)
      ·
       rw [if_pos c10] at H;have c10b0:=decide_eq_true c10;clear c10
       by_cases c11:(rd t179 x12_1)<(l0_0.length:Int)
       ·
        rw [if_pos c11] at H;have c11b0:=decide_eq_true c11;clear c11;have H':=Zk H;clear H;have p182:0≤(x12_1:Int):=of_decide_eq_true (by first|(with_reducible assumption)|assumption);have q182:x12_1<(t179.length:Int):=of_decide_eq_true (by first|(with_reducible assumption)|assumption);obtain ⟨ad182,e182,hx182_0⟩:=Kd.at_int (Kd.R_reads' HO_10.out).2.2 x12_1 p182 q182;cases e182;replace p182:=eq_true p182;replace q182:=eq_true q182;have hcz12_0:=bC BK178;have hfz12_0:=Q6 BK178.out 0;have p183:0≤((rd t179 x12_1):Int):=of_decide_eq_true (by first|(with_reducible assumption)|assumption);have q183:(rd t179 x12_1)<(l0_0.length:Int):=of_decide_eq_true (by first|(with_reducible assumption)|assumption);obtain ⟨ad183,e183,hx183_0⟩:=Kd.at_int HR0_0.out (rd t179 x12_1) p183 q183;cases e183;replace hx183_0:=(HB.out.cell (World.block_lt_of_cell? w _ hx183_0)).trans hx183_0;replace p183:=eq_true p183;replace q183:=eq_true q183;go_wp2;go_roundg k1
        case measure=>have:=HK1.out;omega
        case rel=>exact ⟨(Go.bits .or .i64 x5_1 (rd l0_0 (rd t179 x12_1))),(wrap64 (x12_1+1)),(by first|rfl|(simp;done)|(simp [*];done)),(by first|rfl|(simp;done)|(simp [*];done)),H',⟨by have:=HK1.out;omega⟩,⟨uR HO_10⟩,⟨uK BK178⟩,⟨(vB HB)⟩⟩
       ·
        rw [if_neg c11] at H;exact absurd H (by simp)
      ·
       rw [if_neg c10] at H;exact absurd H (by simp)
     ·
      rw [if_neg c9] at H;exact absurd H (by simp)
    ·
     rw [if_neg c8] at H;exact absurd H (by simp)
   ·
    rw [if_neg c7] at H;have c7b0:=decide_eq_false c7;clear c7;obtain rfl:=Option.some.inj H;go_wp2
    go_ret
    exact ⟨by first|rfl|(simp [Qe,Qf] <;>rfl)|(simp [*,Qe,Qf] <;>rfl),(vB HB)⟩
mutual
def Qbd.l0:Nat→List Int→Int→List Int→Option (List Int)
 |0,_,_,_=>none
 |k+1,x3,x4,x187000=>if x4 ≥ 0 then ((Qb9.f k x187000 x4).bind fun t194=>(if t194=x4 then ((Qch.f x187000).bind fun t195=>((Qb7.f k (Go.bits .andNot .i64 t195 x4)).bind fun t196=>(Qbd.l1 k x3 x4 t196 (t196.length:Int) 0 x187000))) else (Qbd.l0 k x3 (wrap64 (x4 - 1)) x187000))) else (some x3)
def Qbd.l1:Nat→List Int→Int→List Int→Int→Int→List Int→Option (List Int)
 |0,_,_,_,_,_,_=>none
 |k+1,x3,x4,x31,x32,x33,x187000=>if x33<x32 then (if 0≤x33 then (if x33<(x31.length:Int) then (if 0≤(rd x31 x33) then (if (rd x31 x33)<(x187000.length:Int) then (if (Go.bits .andNot .i64 (rd x187000 (rd x31 x33)) x4)=0 then (if 0≤x4 then (if x4<(x3.length:Int) then (if 0≤(Go.bits .or .i64 x4 (shl .i64 1 (rd x31 x33))) then (if (Go.bits .or .i64 x4 (shl .i64 1 (rd x31 x33)))<(x3.length:Int) then (Qbd.l1 k (x3.set (x4:Int).toNat (wrap64 ((rd x3 x4)+(rd x3 (Go.bits .or .i64 x4 (shl .i64 1 (rd x31 x33))))))) x4 x31 x32 (wrap64 (x33+1)) x187000) else (none)) else (none)) else (none)) else (none)) else (Qbd.l1 k x3 x4 x31 x32 (wrap64 (x33+1)) x187000)) else (none)) else (none)) else (none)) else (none)) else (Qbd.l0 k x3 (wrap64 (x4 - 1)) x187000)
end
def Qbd.f (k:Nat) (l0_0:List Int):Option (List Int):=(Qch.f l0_0).bind fun t187=>(if 0≤(wrap64 (t187+1)) then (if (wrap64 (t187+1):Int).toNat≤35184372088832 then ((some (List.replicate (wrap64 (t187+1):Int).toNat 0:List Int)).bind fun y188=>((Qch.f l0_0).bind fun t191=>(if 0≤t191 then (if t191<(y188.length:Int) then ((Qch.f l0_0).bind fun t193=>(Qbd.l0 k (y188.set (t191:Int).toNat 1) (wrap64 (t193 - 1)) l0_0)) else (none)) else (none)))) else (none)) else (none))
theorem Qbd.mono_l: ∀ k,(∀ y0 y1 y2,LeO (Qbd.l0 k y0 y1 y2) (Qbd.l0 (k+1) y0 y1 y2))∧(∀ y0 y1 y2 y3 y4 y5,LeO (Qbd.l1 k y0 y1 y2 y3 y4 y5) (Qbd.l1 (k+1) y0 y1 y2 y3 y4 y5))
 |0=>⟨fun _ _ _ r h=>by simp [Qbd.l0] at h,fun _ _ _ _ _ _ r h=>by simp [Qbd.l1] at h⟩
 |k+1=>by
  obtain ⟨ih0,ih1⟩:=Qbd.mono_l k;refine ⟨?_,?_⟩
  all_goals
   intros
   first|unfold Qbd.l0|unfold Qbd.l1
   repeat' (with_reducible first|apply ih0|apply ih1|apply Qb9.mono|apply Qb7.mono|exact LeO.refl _|exact LeO.none _|refine LeO.ite ?_ ?_|refine LeO.bind ?_ (fun _=> ?_))
theorem Qbd.mono: ∀ a0 k,LeO (Qbd.f k a0) (Qbd.f (k+1) a0):=by
 intro a0 k;obtain ⟨ih0,ih1⟩:=Qbd.mono_l k;unfold Qbd.f
 repeat' (with_reducible first|apply ih0|apply ih1|apply Qb9.mono|apply Qb7.mono|exact LeO.refl _|exact LeO.none _|refine LeO.ite ?_ ?_|refine LeO.bind ?_ (fun _=> ?_))
def Qbd.T11:Bool × List (List Nat × List Nat):=(true,[([],[]),([],[]),([0,1],[0,1]),([2],[2]),([],[]),([],[]),([],[]),([6],[6]),([5,7],[5,7]),([4,8],[4,8]),([9],[9]),([3,10],[3,10]),([0,1,0,1,2,3,4,5,6,7,8,9,10,11],[0,1]),([12,11,0,1,2,3,4,5,6,7,8,9,10,11],[11,12])])
def Qbd.B11:List Nat:= [0,0,3,7,0,0,0,64,224,496,1008,2047,4095,8191]
theorem Qbd.tab11:rtab .any (Qfz Tryz.f262 11)=Qbd.T11:=by kernel_rfl
theorem Qbd.bits11:Qen Qbd.T11.2 Qbd.B11=true:=by kernel_rfl
set_option maxHeartbeats 8000000 in
set_option maxRecDepth 100000 in
theorem Qbd.calls (k:Nat) (A0_0:Option Addr) (c0_0:Nat) (l0_0:List Int) (r:List Int) (w:World) (hr0_0:Kd.C (Kd.int .i64) w A0_0 l0_0.length l0_0) (hc0_0:l0_0.length≤c0_0) (h:Qbd.f k l0_0=some r):
 Calls Tryz.prog 262 #[.agg #[.slice A0_0 l0_0.length c0_0]] w fun e w'=> ∃ v0_:Value,e= .returned (v0_)∧Kd.R (Kd.int .i64) 3 w' w.heap.size (fun _=>True) v0_ r∧Below w.heap.size w w':=by
 have hu26:=Tryz.underlying26;have HR0_0:=Zk hr0_0;have HC0_0:=Zk hc0_0;clear hr0_0 hc0_0;have HB:=Zk (Below.refl w.heap.size w);have H:((Qch.f l0_0).bind fun t187=>(if 0≤(wrap64 (t187+1)) then (if (wrap64 (t187+1):Int).toNat≤35184372088832 then ((some (List.replicate (wrap64 (t187+1):Int).toNat 0:List Int)).bind fun y188=>((Qch.f l0_0).bind fun t191=>(if 0≤t191 then (if t191<(y188.length:Int) then ((Qch.f l0_0).bind fun t193=>(Qbd.l0 k (y188.set (t191:Int).toNat 1) (wrap64 (t193 - 1)) l0_0)) else (none)) else (none)))) else (none)) else (none)))=some r:=h;clear h;obtain ⟨t187,A2,H⟩:=bs H;(try dsimp only at H)
 obtain ⟨ji3,hji3⟩: ∃ j_:Int,(wrap64 (t187+1))=j_:=⟨_,rfl⟩
 replace H:(if 0≤(ji3) then (if (ji3:Int).toNat≤35184372088832 then ((some (List.replicate (ji3:Int).toNat 0:List Int)).bind fun y188=>((Qch.f l0_0).bind fun t191=>(if 0≤t191 then (if t191<(y188.length:Int) then ((Qch.f l0_0).bind fun t193=>(Qbd.l0 k (y188.set (t191:Int).toNat 1) (wrap64 (t193 - 1)) l0_0)) else (none)) else (none)))) else (none)) else (none))=some r:=by first|(rw [hji3] at H;exact H)|(simp only [hji3] at H ⊢;exact H)
 (try rw [hji3] at A2)
 have hji3w:(IntKind.i64.wrap (t187+1))=ji3:=(Qcm _).trans hji3
 by_cases c4:0≤(ji3)
 ·
  rw [if_pos c4] at H;have c4b0:=eq_true c4;have c4b1:=decide_eq_true c4;clear c4
  by_cases c5:(ji3:Int).toNat≤35184372088832
  ·
   rw [if_pos c5] at H;have c5b0:=eq_true c5;have c5b1:=decide_eq_true c5;clear c5;obtain ⟨y188,hy188⟩: ∃ y_:List Int,y_=(List.replicate (ji3:Int).toNat 0):=⟨_,rfl⟩
   replace H:((Qch.f l0_0).bind fun t191=>(if 0≤t191 then (if t191<(y188.length:Int) then ((Qch.f l0_0).bind fun t193=>(Qbd.l0 k (y188.set (t191:Int).toNat 1) (wrap64 (t193 - 1)) l0_0)) else (none)) else (none)))=some r:=by first|(rw [hy188];with_reducible exact H)|(have H2_:=(Option.bind_some _ _).symm.trans H;rw [hy188];with_reducible exact H2_)|(have H2_:=(Option.bind_some _ _).symm.trans H;with_reducible exact H2_)|with_reducible exact H|(rw [hy188];exact H)|exact H
   have Ny188:=Zk hy188;clear hy188;obtain ⟨t191,A6,H⟩:=bs H;(try dsimp only at H)
   by_cases c7:0≤t191
   ·
    rw [if_pos c7] at H;have c7b0:=decide_eq_true c7;clear c7
    by_cases c8:t191<(y188.length:Int)
    ·
     rw [if_pos c8] at H;have c8b0:=decide_eq_true c8;clear c8;obtain ⟨y192,hy192⟩: ∃ y_:List Int,y_=(y188.set (t191:Int).toNat 1):=⟨_,rfl⟩
     replace H:((Qch.f l0_0).bind fun t193=>(Qbd.l0 k y192 (wrap64 (t193 - 1)) l0_0))=some r:=by first|(rw [hy192];with_reducible exact H)|(have H2_:=(Option.bind_some _ _).symm.trans H;rw [hy192];with_reducible exact H2_)|(have H2_:=(Option.bind_some _ _).symm.trans H;with_reducible exact H2_)|with_reducible exact H|(rw [hy192];exact H)|exact H
     have Ny192:=Zk hy192;clear hy192;obtain ⟨t193,A10,H⟩:=bs H;(try dsimp only at H)
     have H':=Zk H;clear H;go_enter Tryz.func262,Tryz.ntmps262;go_wp2_with (first|(refine bE (N:=1) (cs:= #[.slice A0_0 l0_0.length c0_0]) (t:=26) ?_;intro gb186 hg w11 hbox hb;have BK186:=Zk (hbox);have GW186:=Zk ((by rw [hg];exact (Qh (uB HB)):w.heap.size≤gb186));have GE186:=GW186;replace HB:=Zk (Qb (uB HB) hb);clear hb hbox hg;have hcz12_0:=bC BK186;have hfz12_0:=Q6 BK186.out 0)|(refine gA (some 8) Tryz.func290 #[.agg #[.slice A0_0 l0_0.length c0_0]] ?_;(with_reducible refine (Qch.calls _ _ l0_0 t187 _ (uD HR0_0 HB) HC0_0.out A2.out).mono ?_);rintro e w13 ⟨rfl,hb⟩;refine ⟨_,rfl,?_⟩;replace BK186:=Zk (Qbg (uK BK186) hb);replace HB:=Zk (Qb (vB HB) hb);(try clear hb))|((with_reducible refine Qu (N:=10) rfl ?_);refine Kd.R_make (Kd.int .i64) _ 3 rfl (N:=10) rfl 24 _ _ rfl ji3 rfl rfl Tryz.underlying24 (.int .i64 0) 8 Qdq rfl (by decide) (by omega) 0 (ok:=fun _=>True) (okp:=fun _=>True) rfl (fun _ hk=>hk) trivial (of_decide_eq_true (by first|(with_reducible assumption)|assumption)) (Nat.le_trans (Nat.mul_le_mul_right _ (of_decide_eq_true (by first|(with_reducible assumption)|assumption):ji3.toNat≤35184372088832)) (by omega)) (Below.refl _ _) (Nat.le_refl _) ?_;intro v189 w14 ho15 hb hg_ hnew_;clear hg_ hnew_;(first|rw [←Ny188.out] at ho15|(simp only [Int.reduceToNat] at ho15;rw [←Ny188.out] at ho15));have HO190:=Zk (Kd.R_lower ho15 (Qh (vB HB)));replace BK186:=Zk (Qbg (uK BK186) hb);replace HB:=Zk (Qb (vB HB) hb);clear hb ho15;have hcz16_0:=bC BK186;have hfz16_0:=Q6 BK186.out 0)|(refine gA (some 13) Tryz.func290 #[.agg #[.slice A0_0 l0_0.length c0_0]] ?_;(with_reducible refine (Qch.calls _ _ l0_0 t191 _ (uD HR0_0 HB) HC0_0.out A6.out).mono ?_);rintro e w17 ⟨rfl,hb⟩;refine ⟨_,rfl,?_⟩;replace HO190:=Zk (Kd.R_below (uR HO190) hb);replace BK186:=Zk (Qbg (uK BK186) hb);replace HB:=Zk (Qb (vB HB) hb);(try clear hb);have p9:0≤(t191:Int):=of_decide_eq_true (by first|(with_reducible assumption)|assumption);have q9:(t191:Int)<((y188.length:Int):Int):=of_decide_eq_true (by first|(with_reducible assumption)|assumption);obtain ⟨go9,co9,eo9,gb9,gl9,cl9,HG9⟩:=Kd.R_form HO190.out (by omega);(first|cases eo9|(injection eo9 with ea_ en_ ec_;(first|subst ea_|(injection ea_ with ea_;subst ea_));subst ec_;clear en_));have GB9:=Zk gb9;have GG9:=Zk HG9;clear gb9 gl9 HG9;obtain ⟨hx9_0,hf9_0⟩:=Kd.R_celln 0 HO190.out (t191:Int) p9 q9;replace p9:=eq_true p9;replace q9:=eq_true q9;obtain ⟨hy18_,hz18_⟩:=Kd.R_celln 0 HO190.out (t191:Int) (of_decide_eq_true (by first|(with_reducible assumption)|assumption)) (of_decide_eq_true (by first|(with_reducible assumption)|assumption));have HP18:=Kd.R_putg HO190.out (t191:Int) 1)|((with_reducible refine Qer (t:=3) (p:=14) rfl ?_);refine Qel (t:=3) (p:=14) (v:= ?vo_w19) (w1:=(w17.setCell ⟨go9,(t191:Int).toNat,none⟩ (.int .i64 1))) ?hg ?ho ?hn ?hr ?_;(case ho=>rfl);(case hg=>rfl);(case hn=>rfl);(case hr=>first|(go_simp;done)|(go_simp;rfl));intro w19 hw;have hg:w17.grownBy w19 (some go9):=(by rw [hw];exact HP18.2);have hp_:Kd.R (Kd.int .i64) 3 w19 w.heap.size (fun _=>True) (.slice (some ⟨go9,0,none⟩) y188.length co9) y192:=(by rw [hw,Ny192.out];exact HP18.1);clear HP18;replace BK186:=Zk (Qc8 (uK BK186) hg (Kd.R_ne HO190.out BK186.out (by decide)));replace HO190:=Zk (hp_);replace HB:=Zk ((by rw [hw];exact Qbt (HB.out) GB9.out:Below w.heap.size w w19));clear hg hw hp_;have hcz20_0:=bC BK186;have hfz20_0:=Q6 BK186.out 0)|(refine gA (some 16) Tryz.func290 #[.agg #[.slice A0_0 l0_0.length c0_0]] ?_;(with_reducible refine (Qch.calls _ _ l0_0 t193 _ (uD HR0_0 HB) HC0_0.out A10.out).mono ?_);rintro e w21 ⟨rfl,hb⟩;refine ⟨_,rfl,?_⟩;replace HO190:=Zk (Kd.R_below (uR HO190) hb);replace BK186:=Zk (Qbg (uK BK186) hb);replace HB:=Zk (Qb (vB HB) hb);(try clear hb)))
     go_loopg [4] k (fun kq v4 w'=> ∃ (x3_1:List Int) (x4_1:Int),v4= .int .i64 x4_1∧Z0 (Qbd.l0 kq x3_1 x4_1 l0_0=some r)∧Z0 (kq≤k)∧Z0 (Kd.R (Kd.int .i64) 3 w' w.heap.size (fun _=>True) (.slice (some ⟨go9,0,none⟩) y188.length co9) x3_1)∧Z0 (w'.heap[gb186]? =some (.cells #[(.slice A0_0 l0_0.length c0_0)] 26 (0,0)))∧Z0 (Below w.heap.size w w'))
     case atStart=>exact ⟨(y192),(wrap64 (t193 - 1)),(by first|rfl|(simp;done)|(simp [*];done)),H',⟨Nat.le_refl _⟩,⟨uR HO190⟩,⟨uK BK186⟩,⟨(vB HB)⟩⟩
     case round=>
      clear H'
      try clear c4b0 c4b1 c5b0 c5b1 c7b0 c8b0 p9 q9 hcz12_0 hcz16_0 hcz20_0 hfz12_0 hfz16_0 hfz20_0 hx9_0 p9 q9
      obtain ⟨x3_1,x4_1,rfl,HA,HK1,HO_3,BK186,HB⟩:=hrel;have hl3_1:=(Kd.R_reads' HO_3.out).1;rw [hl3_1] at HO_3
      (try simp only [hl3_1])
      (try simp only [hl3_1] at BK186)
      cases gk with
      |zero=>exact absurd HA.out (by simp [Qbd.l0])
      |succ k1=>
       have H:=HA.out;clear HA;simp only [Qbd.l0] at H
       by_cases c22:x4_1 ≥ 0
       ·
        rw [if_pos c22] at H;have c22b0:=decide_eq_true c22;clear c22;obtain ⟨t194,A23,H⟩:=bs H;(try dsimp only at H)
        by_cases c24:t194=x4_1
        ·
         rw [if_pos c24] at H;have c24b0:(t194==x4_1)=true:=beq_iff_eq.mpr c24;have c24b1:(t194 !=x4_1)=false:=bne_eq_false_iff_eq.mpr c24;clear c24;obtain ⟨t195,A25,H⟩:=bs H;(try dsimp only at H)
         obtain ⟨t196,A26,H⟩:=bs H;(try dsimp only at H)
         have H':=Zk H;clear H;have hcz27_0:=bC BK186;have hfz27_0:=Q6 BK186.out 0;go_wp2_with (first|(refine gA (some 24) Tryz.func283 #[.agg #[.slice A0_0 l0_0.length c0_0], .int .i64 x4_1] ?_;(with_reducible refine (Qb9.calls k1 _ _ l0_0 x4_1 t194 _ (uD HR0_0 HB) HC0_0.out A23.out).mono ?_);rintro e w28 ⟨rfl,hb⟩;refine ⟨_,rfl,?_⟩;replace HO_3:=Zk (Kd.R_below (uR HO_3) hb);replace BK186:=Zk (Qbg (uK BK186) hb);replace HB:=Zk (Qb (vB HB) hb);(try clear hb);have hcz29_0:=bC BK186;have hfz29_0:=Q6 BK186.out 0)|(refine gA (some 28) Tryz.func290 #[.agg #[.slice A0_0 l0_0.length c0_0]] ?_;(with_reducible refine (Qch.calls _ _ l0_0 t195 _ (uD HR0_0 HB) HC0_0.out A25.out).mono ?_);rintro e w30 ⟨rfl,hb⟩;refine ⟨_,rfl,?_⟩;replace HO_3:=Zk (Kd.R_below (uR HO_3) hb);replace BK186:=Zk (Qbg (uK BK186) hb);replace HB:=Zk (Qb (vB HB) hb);(try clear hb))|(refine gA (some 31) Tryz.func277 #[.int .i64 (Go.bits .andNot .i64 t195 x4_1)] ?_;(with_reducible refine (Qb7.calls k1 (Go.bits .andNot .i64 t195 x4_1) t196 _ A26.out).mono ?_);rintro e w31 ⟨v197,rfl,ho0,hb⟩;refine ⟨_,rfl,?_⟩;have HO198:=Zk (Kd.R_lower (Kd.R_new' ho0 (Kd.R_lt (uR HO_3))) (Qh (vB HB)));replace HO_3:=Zk (Kd.R_elder' (uR HO_3) (Kd.R_base ho0) hb);replace BK186:=Zk (Qbg (uK BK186) hb);replace HB:=Zk (Qb (vB HB) hb);(try clear hb ho0);obtain ⟨Ao32,co32,eo32⟩:=Kd.R_slice HO198.out;subst eo32))
         go_loopg [33] k1 (fun kq v33 w'=> ∃ (x3_2:List Int) (x33_2:Int),v33= .int .i64 x33_2∧Z0 (Qbd.l1 kq x3_2 x4_1 t196 (t196.length:Int) x33_2 l0_0=some r)∧Z0 (kq≤k1)∧Z0 (Kd.R (Kd.int .i64) 3 w' w.heap.size (fun k_=>some k_≠((.slice Ao32 t196.length co32):Value).ownBlock) (.slice (some ⟨go9,0,none⟩) x3_1.length co9) x3_2)∧Z0 (Kd.R (Kd.int .i64) 3 w' w.heap.size (fun k_=>some k_≠((.slice (some ⟨go9,0,none⟩) x3_1.length co9):Value).ownBlock) (.slice Ao32 t196.length co32) t196)∧Z0 (w'.heap[gb186]? =some (.cells #[(.slice A0_0 l0_0.length c0_0)] 26 (0,0)))∧Z0 (Below w.heap.size w w'))
         case atStart=>exact ⟨(x3_1),(0),(by first|rfl|(simp;done)|(simp [*];done)),H',⟨Nat.le_refl _⟩,⟨by (try simp only [hl3_1]);(with_reducible repeat (first|apply Kd.R_alloc|apply Kd.R_drewN|apply Kd.R_drew));exact Kd.R_mono HO_3.out (fun _ hk=>hk.2)⟩,⟨by (try simp only [hl3_1]);(with_reducible repeat (first|apply Kd.R_alloc|apply Kd.R_drewN|apply Kd.R_drew));exact Kd.R_mono HO198.out (fun _ hk=>hk.2)⟩,⟨by (try simp only [hl3_1]);(with_reducible repeat (first|refine Qcg ?_ _|refine Qc7 ?_|refine Qci ?_ _));exact BK186.out⟩,⟨(vB HB)⟩⟩
         case round=>
          clear H'
          try clear c22b0 c24b0 c24b1 hcz27_0 hcz29_0 hfz27_0 hfz29_0
          obtain ⟨x3_2,x33_2,rfl,HA,HK2,HO_3,HO_31,BK186,HB⟩:=hrel;have hl3_2:=(Kd.R_reads' HO_3.out).1;rw [hl3_2] at HO_3
          (try simp only [hl3_2])
          (try simp only [hl3_2] at BK186)
          (try simp only [hl3_2] at HO_31)
          cases gk with
          |zero=>exact absurd HA.out (by simp [Qbd.l1])
          |succ k2=>
           have H:=HA.out;clear HA;simp only [Qbd.l1] at H
           by_cases c33:x33_2<(t196.length:Int)
           ·
            rw [if_pos c33] at H;have c33b0:=decide_eq_true c33;clear c33
            by_cases c34:0≤x33_2
            ·
             rw [if_pos c34] at H;have c34b0:=decide_eq_true c34;clear c34
             by_cases c35:x33_2<(t196.length:Int)
             ·
              rw [if_pos c35] at H;have c35b0:=decide_eq_true c35;clear c35
              by_cases c36:0≤(rd t196 x33_2)
              ·
               rw [if_pos c36] at H;have c36b0:=decide_eq_true c36;clear c36
               by_cases c37:(rd t196 x33_2)<(l0_0.length:Int)
               ·
                rw [if_pos c37] at H;have c37b0:=decide_eq_true c37;clear c37
                by_cases c38:(Go.bits .andNot .i64 (rd l0_0 (rd t196 x33_2)) x4_1)=0
                ·
                 rw [if_pos c38] at H;have c38b0:((Go.bits .andNot .i64 (rd l0_0 (rd t196 x33_2)) x4_1)==0)=true:=beq_iff_eq.mpr c38;have c38b1:((Go.bits .andNot .i64 (rd l0_0 (rd t196 x33_2)) x4_1) !=0)=false:=bne_eq_false_iff_eq.mpr c38;clear c38
                 by_cases c39:0≤x4_1
                 ·
                  rw [if_pos c39] at H;have c39b0:=decide_eq_true c39;clear c39
                  by_cases c40:x4_1<(x3_2.length:Int)
                  ·
                   rw [if_pos c40] at H;have c40b0:=decide_eq_true c40;clear c40;have c41b0:=eq_true (of_decide_eq_true (by first|(with_reducible assumption)|assumption):0≤(rd t196 x33_2));obtain ⟨ji42,hji42⟩: ∃ j_:Int,(shl .i64 1 (rd t196 x33_2))=j_:=⟨_,rfl⟩
                   replace H:(if 0≤(Go.bits .or .i64 x4_1 (ji42)) then (if (Go.bits .or .i64 x4_1 (ji42))<(x3_2.length:Int) then (Qbd.l1 k2 (x3_2.set (x4_1:Int).toNat (wrap64 ((rd x3_2 x4_1)+(rd x3_2 (Go.bits .or .i64 x4_1 (ji42)))))) x4_1 t196 (t196.length:Int) (wrap64 (x33_2+1)) l0_0) else (none)) else (none))=some r:=by first|(rw [hji42] at H;exact H)|(simp only [hji42] at H ⊢;exact H)
                   have hji42_:(IntKind.i64.wrap (1*2 ^ min (rd t196 x33_2).toNat 64))=ji42:=hji42;have hji42z:(rd t196 x33_2)≤64→(IntKind.i64.wrap (1*2 ^ (rd t196 x33_2).toNat))=ji42:=Qea hji42;have hji42u:(IntKind.i64.wrap (2 ^ min (rd t196 x33_2).toNat 64))=ji42:=by have h_:=hji42_;rw [Int.one_mul] at h_;exact h_
                   have hji42v:(rd t196 x33_2)≤64→(IntKind.i64.wrap (2 ^ (rd t196 x33_2).toNat))=ji42:=fun hle_=>by have h_:=hji42z hle_;rw [Int.one_mul] at h_;exact h_
                   have hji42y:(wrap64 (1*2 ^ min (rd t196 x33_2).toNat 64))=ji42:=(Qcm _).symm.trans hji42_;have hji42x:(rd t196 x33_2)≤64→(wrap64 (1*2 ^ (rd t196 x33_2).toNat))=ji42:=fun h_=>(Qcm _).symm.trans (hji42z h_)
                   by_cases c43:0≤(Go.bits .or .i64 x4_1 (ji42))
                   ·
                    rw [if_pos c43] at H;have c43b0:=decide_eq_true c43;clear c43
                    by_cases c44:(Go.bits .or .i64 x4_1 (ji42))<(x3_2.length:Int)
                    ·
                     rw [if_pos c44] at H;have c44b0:=decide_eq_true c44;clear c44;obtain ⟨y203,hy203⟩: ∃ y_:List Int,y_=(x3_2.set (x4_1:Int).toNat (wrap64 ((rd x3_2 x4_1)+(rd x3_2 (Go.bits .or .i64 x4_1 (ji42)))))):=⟨_,rfl⟩
                     replace H:(Qbd.l1 k2 y203 x4_1 t196 (t196.length:Int) (wrap64 (x33_2+1)) l0_0)=some r:=by first|(rw [hy203];with_reducible exact H)|(have H2_:=(Option.bind_some _ _).symm.trans H;rw [hy203];with_reducible exact H2_)|(have H2_:=(Option.bind_some _ _).symm.trans H;with_reducible exact H2_)|with_reducible exact H|(rw [hy203];exact H)|exact H
                     have Ny203:=Zk hy203;clear hy203;have H':=Zk H;clear H;have p199:0≤(x33_2:Int):=of_decide_eq_true (by first|(with_reducible assumption)|assumption);have q199:x33_2<(t196.length:Int):=of_decide_eq_true (by first|(with_reducible assumption)|assumption);obtain ⟨ad199,e199,hx199_0⟩:=Kd.at_int (Kd.R_reads' HO_31.out).2.2 x33_2 p199 q199;cases e199;replace p199:=eq_true p199;replace q199:=eq_true q199;have hcz46_0:=bC BK186;have hfz46_0:=Q6 BK186.out 0;have p200:0≤((rd t196 x33_2):Int):=of_decide_eq_true (by first|(with_reducible assumption)|assumption);have q200:(rd t196 x33_2)<(l0_0.length:Int):=of_decide_eq_true (by first|(with_reducible assumption)|assumption);obtain ⟨ad200,e200,hx200_0⟩:=Kd.at_int HR0_0.out (rd t196 x33_2) p200 q200;cases e200;replace hx200_0:=(HB.out.cell (World.block_lt_of_cell? w _ hx200_0)).trans hx200_0;replace p200:=eq_true p200;replace q200:=eq_true q200
                     try go_wp2
                     replace HO_3:=Zk (Kd.R_drew HO_3.out);replace HO_31:=Zk (Kd.R_drew HO_31.out);replace BK186:=Zk (Qc7 BK186.out);replace HB:=Zk (Q2 HB.out);have p201:0≤(x4_1:Int):=of_decide_eq_true (by first|(with_reducible assumption)|assumption);have q201:x4_1<(x3_2.length:Int):=of_decide_eq_true (by first|(with_reducible assumption)|assumption);obtain ⟨ad201,e201,hx201_0⟩:=Kd.at_int (Kd.R_reads' HO_3.out).2.2 x4_1 p201 q201;obtain rfl:(⟨go9,0,none⟩:Addr)=ad201:=(by injection e201)
                     (first|simp only [Qd2] at hx201_0|simp only [Qe5] at hx201_0|simp only [Addr.add,Nat.zero_add] at hx201_0|skip)
                     replace p201:=eq_true p201;replace q201:=eq_true q201;have p202:0≤((Go.bits .or .i64 x4_1 (ji42)):Int):=of_decide_eq_true (by first|(with_reducible assumption)|assumption);have q202:(Go.bits .or .i64 x4_1 (ji42))<(x3_2.length:Int):=of_decide_eq_true (by first|(with_reducible assumption)|assumption);obtain ⟨ad202,e202,hx202_0⟩:=Kd.at_int (Kd.R_reads' HO_3.out).2.2 (Go.bits .or .i64 x4_1 (ji42)) p202 q202;obtain rfl:(⟨go9,0,none⟩:Addr)=ad202:=(by injection e202)
                     (first|simp only [Qd2] at hx202_0|simp only [Qe5] at hx202_0|simp only [Addr.add,Nat.zero_add] at hx202_0|skip)
                     replace p202:=eq_true p202;replace q202:=eq_true q202;have p45:0≤(x4_1:Int):=of_decide_eq_true (by first|(with_reducible assumption)|assumption);have q45:(x4_1:Int)<((x3_2.length:Int):Int):=of_decide_eq_true (by first|(with_reducible assumption)|assumption);obtain ⟨hx45_0,hf45_0⟩:=Kd.R_celln 0 HO_3.out (x4_1:Int) p45 q45;replace p45:=eq_true p45;replace q45:=eq_true q45;have HP48:=Kd.R_putn HO_3.out (x4_1:Int) (wrap64 ((rd x3_2 x4_1)+(rd x3_2 (Go.bits .or .i64 x4_1 (ji42)))));rw [←Ny203.out] at HP48;have HQ48:=Zk HP48;clear HP48;refine sU (n:=14) (S:=fun w'=>w'.cell? ⟨go9,(x4_1).toNat,none⟩=some (.int .i64 (rd x3_2 x4_1))∧w'.cell? ⟨go9,((Go.bits .or .i64 x4_1 (ji42))).toNat,none⟩=some (.int .i64 (rd x3_2 (Go.bits .or .i64 x4_1 (ji42))))) (ds:= [13]) ⟨hx201_0,hx202_0⟩ (fun hHeld=> ?_);refine Qey Qbd.tab11 Qbd.bits11 (fun HT_ HW_=> ?_);generalize wr.drew=w47 at HO_3 HO_31 BK186 HB HQ48 hf45_0 hx201_0 hx202_0 hx45_0 hHeld ⊢;refine pU 0 45 ?_;refine pU 1 46 ?_;refine pU 2 47 ?_;refine pU 4 49 ?_;refine pU 5 50 ?_;refine pU 6 51 ?_;refine pU 7 52 ?_;refine pU 8 53 ?_;refine pU 9 54 ?_;refine tW 3 48 hHeld ?_;refine tW 10 55 hHeld ?_;refine pU 11 56 ?_;refine pU 12 57 ?_;refine lU 13 none fun K hK=> ?_
                     refine sK ?_;refine hK.out _ _ ?_;clear hK K;refine dU ?_
                     try go_wp2
                     (try simp only [←hl3_2])
                     go_roundg k2
                     case measure=>have:=HK1.out;have:=HK2.out;omega
                     case rel=>exact ⟨(y203),(wrap64 (x33_2+1)),(by first|rfl|(simp;done)|(simp [*];done)),H',⟨by have:=HK1.out;have:=HK2.out;omega⟩,⟨by (try simp only [hl3_1]);(try simp only [hl3_2]);(with_reducible repeat (first|apply Kd.R_alloc|apply Kd.R_drewN|apply Kd.R_drew));exact HQ48.out⟩,⟨by (try simp only [hl3_1]);(try simp only [hl3_2]);(with_reducible repeat (first|apply Kd.R_alloc|apply Kd.R_drewN|apply Kd.R_drew));exact Kd.R_mono (Kd.R_far (p:=⟨go9,(x4_1:Int).toNat,none⟩) (Kd.R_mono HO_31.out (fun k_ hk=>(⟨hk,fun e_=>hk (by rw [e_];rfl)⟩:_∧k_≠go9))) (fun _ hk=>hk.2) (.int .i64 (wrap64 ((rd x3_2 x4_1)+(rd x3_2 (Go.bits .or .i64 x4_1 (ji42))))))) (fun _ hk=>hk.1)⟩,⟨by (try simp only [hl3_1]);(try simp only [hl3_2]);(with_reducible repeat (first|refine Qcg ?_ _|refine Qc7 ?_|refine Qci ?_ _));refine Qd5 ?_ (by have h_:=Kd.R_ne HO_3.out BK186.out (by decide);intro e_;exact h_ (by rw [e_];rfl)) _;(with_reducible repeat (first|refine Qcg ?_ _|refine Qc7 ?_|refine Qci ?_ _));exact BK186.out⟩,⟨(vB HB)⟩⟩
                    ·
                     rw [if_neg c44] at H;exact absurd H (by simp)
                   ·
                    rw [if_neg c43] at H;exact absurd H (by simp)
                  ·
                   rw [if_neg c40] at H;exact absurd H (by simp)
                 ·
                  rw [if_neg c39] at H;exact absurd H (by simp)
                ·
                 rw [if_neg c38] at H;have c38b0:((Go.bits .andNot .i64 (rd l0_0 (rd t196 x33_2)) x4_1)==0)=false:=beq_eq_false_iff_ne.mpr c38;have c38b1:((Go.bits .andNot .i64 (rd l0_0 (rd t196 x33_2)) x4_1) !=0)=true:=bne_iff_ne.mpr c38;have H':=Zk H;clear H;have p199:0≤(x33_2:Int):=of_decide_eq_true (by first|(with_reducible assumption)|assumption);have q199:x33_2<(t196.length:Int):=of_decide_eq_true (by first|(with_reducible assumption)|assumption);obtain ⟨ad199,e199,hx199_0⟩:=Kd.at_int (Kd.R_reads' HO_31.out).2.2 x33_2 p199 q199;cases e199;replace p199:=eq_true p199;replace q199:=eq_true q199;have hcz49_0:=bC BK186;have hfz49_0:=Q6 BK186.out 0;have p200:0≤((rd t196 x33_2):Int):=of_decide_eq_true (by first|(with_reducible assumption)|assumption);have q200:(rd t196 x33_2)<(l0_0.length:Int):=of_decide_eq_true (by first|(with_reducible assumption)|assumption);obtain ⟨ad200,e200,hx200_0⟩:=Kd.at_int HR0_0.out (rd t196 x33_2) p200 q200;cases e200;replace hx200_0:=(HB.out.cell (World.block_lt_of_cell? w _ hx200_0)).trans hx200_0;replace p200:=eq_true p200;replace q200:=eq_true q200;go_wp2
                 (try simp only [←hl3_2])
                 go_roundg k2
                 case measure=>have:=HK1.out;have:=HK2.out;omega
                 case rel=>exact ⟨(x3_2),(wrap64 (x33_2+1)),(by first|rfl|(simp;done)|(simp [*];done)),H',⟨by have:=HK1.out;have:=HK2.out;omega⟩,⟨by (try simp only [hl3_1]);(try simp only [hl3_2]);(with_reducible repeat (first|apply Kd.R_alloc|apply Kd.R_drewN|apply Kd.R_drew));exact HO_3.out⟩,⟨by (try simp only [hl3_1]);(try simp only [hl3_2]);(with_reducible repeat (first|apply Kd.R_alloc|apply Kd.R_drewN|apply Kd.R_drew));exact HO_31.out⟩,⟨by (try simp only [hl3_1]);(try simp only [hl3_2]);(with_reducible repeat (first|refine Qcg ?_ _|refine Qc7 ?_|refine Qci ?_ _));exact BK186.out⟩,⟨(vB HB)⟩⟩
               ·
                rw [if_neg c37] at H;exact absurd H (by simp)
              ·
               rw [if_neg c36] at H;exact absurd H (by simp)
             ·
              rw [if_neg c35] at H;exact absurd H (by simp)
            ·
             rw [if_neg c34] at H;exact absurd H (by simp)
           ·
            rw [if_neg c33] at H;have c33b0:=decide_eq_false c33;clear c33;have H':=Zk H;clear H;go_wp2
            (try simp only [←hl3_1,←hl3_2])
            go_roundg k2
            case measure=>have:=HK1.out;have:=HK2.out;omega
            case rel=>exact ⟨(x3_2),(wrap64 (x4_1 - 1)),(by first|rfl|(simp;done)|(simp [*];done)),H',⟨by have:=HK1.out;have:=HK2.out;omega⟩,⟨by (try simp only [hl3_1]);(try simp only [hl3_2]);(with_reducible repeat (first|apply Kd.R_alloc|apply Kd.R_drewN|apply Kd.R_drew));exact Kd.R_mono HO_3.out (fun _ hk=>trivial)⟩,⟨by (try simp only [hl3_1]);(try simp only [hl3_2]);(with_reducible repeat (first|refine Qcg ?_ _|refine Qc7 ?_|refine Qci ?_ _));exact BK186.out⟩,⟨(vB HB)⟩⟩
        ·
         rw [if_neg c24] at H;have c24b0:(t194==x4_1)=false:=beq_eq_false_iff_ne.mpr c24;have c24b1:(t194 !=x4_1)=true:=bne_iff_ne.mpr c24;have H':=Zk H;clear H;have hcz50_0:=bC BK186;have hfz50_0:=Q6 BK186.out 0;go_wp2_with (first|(refine gA (some 24) Tryz.func283 #[.agg #[.slice A0_0 l0_0.length c0_0], .int .i64 x4_1] ?_;(with_reducible refine (Qb9.calls k1 _ _ l0_0 x4_1 t194 _ (uD HR0_0 HB) HC0_0.out A23.out).mono ?_);rintro e w51 ⟨rfl,hb⟩;refine ⟨_,rfl,?_⟩;replace HO_3:=Zk (Kd.R_below (uR HO_3) hb);replace BK186:=Zk (Qbg (uK BK186) hb);replace HB:=Zk (Qb (vB HB) hb);(try clear hb)))
         (try simp only [←hl3_1])
         go_roundg k1
         case measure=>have:=HK1.out;omega
         case rel=>exact ⟨(x3_1),(wrap64 (x4_1 - 1)),(by first|rfl|(simp;done)|(simp [*];done)),H',⟨by have:=HK1.out;omega⟩,⟨by (try simp only [hl3_1]);(with_reducible repeat (first|apply Kd.R_alloc|apply Kd.R_drewN|apply Kd.R_drew));exact HO_3.out⟩,⟨by (try simp only [hl3_1]);(with_reducible repeat (first|refine Qcg ?_ _|refine Qc7 ?_|refine Qci ?_ _));exact BK186.out⟩,⟨(vB HB)⟩⟩
       ·
        rw [if_neg c22] at H;have c22b0:=decide_eq_false c22;clear c22;obtain rfl:=Option.some.inj H;go_wp2
        go_ret
        exact ⟨_,by first|rfl|(simp [Qe,Qf] <;>rfl)|(simp only [←hji3];first|rfl|(simp [Qe,Qf] <;>rfl))|(simp [*,Qe,Qf] <;>rfl),uR HO_3,(vB HB)⟩
    ·
     rw [if_neg c8] at H;exact absurd H (by simp)
   ·
    rw [if_neg c7] at H;exact absurd H (by simp)
  ·
   rw [if_neg c5] at H;exact absurd H (by simp)
 ·
  rw [if_neg c4] at H;exact absurd H (by simp)
end Go.Proofs.YtkgngggppcmpfaaGreat.L
end
section
namespace Go.Proofs.YtkgngggppcmpfaaGreat.L
open Go.RowKit Go.Proofs.YtkgngggppcmpfaaGreatW.PrintWords Go.Proofs.YtkgngggppcmpfaaGreatW.PrintLast Go.Proofs.YtkgngggppcmpfaaGreatW.PrintMore
attribute [local go_sem] Qy Q0 Qbb Qbc Qp Qq Qz Q1
set_option linter.unusedVariables false
set_option linter.unusedSimpArgs false
def Qdy.f (l0:List Int):Option (List Int):=if l0.length<17592186044416 then some l0 else none
set_option maxHeartbeats 800000 in
set_option maxRecDepth 100000 in
theorem Qdy.calls (A0:Option Addr) (c0:Nat) (l0:List Int) (r:List Int) (w:World) (hr0:Kd.C (Kd.int .i64) w A0 l0.length l0) (hc0:l0.length≤c0) (h:Qdy.f l0=some r):
 Calls Tryz.prog 295 #[.slice A0 l0.length c0] w fun e w'=> ∃ v0_:Value,e= .returned (v0_)∧Kd.R (Kd.int .i64) 3 w' w.heap.size (fun _=>True) v0_ r∧Below w.heap.size w w':=by
 unfold Qdy.f at h
 split at h
 ·
  rename_i hl;obtain rfl:=Option.some.inj h;clear h;have HL:=Zk hl;have HR0:=Zk hr0;clear hl hr0 hc0;cases A0 with
  |none=>
   have hn:l0= [] :=by
    apply Classical.byContradiction;intro hne;obtain ⟨_,e,_⟩:=HR0.out.2.2 (List.length_pos_iff.mpr hne);cases e
   subst hn;have hs:=Lib.run_eql_slice_nil (P:=Tryz.prog) w 24 3 none 0 c0 0 0 Tryz.underlying24;go_enter Tryz.func295,Tryz.ntmps295;go_wp2
   go_ret
   exact ⟨_,rfl,Kd.R_nil _ _ _ _ _,Below.refl _ _⟩
  |some a=>
   have hs:=Lib.run_eql_slice_nil (P:=Tryz.prog) w 24 3 (some a) l0.length c0 0 0 Tryz.underlying24;go_enter Tryz.func295,Tryz.ntmps295;go_wp2_with (first|((with_reducible refine Qu (N:=5) rfl ?_);refine Kd.R_lit (Kd.int .i64) _ 3 ?hg (N:=5) ?hd (xs:=([] :List Int)) (inner:= []) (ok:=fun _=>True) (okp:=fun _=>True) ?hr ?hp (fun _ hk=>hk) trivial (Below.refl _ _) (Nat.le_refl _) (by simp) ?_;(case hd=>rfl);(case hg=>rfl);(case hr=>first|(go_simp;done)|(go_simp;rfl));(case hp=>exact (Reps.none _ _));intro v109 w3 ho4 hb hg_ hnew_;clear hg_ hnew_;have HB:=Zk hb;have HO:=Zk ho4;clear hb ho4)|((with_reducible refine Qb1 (b:= .append) (xs:= #[.tmp 5, .tmp 6]) rfl ?_);at_builtin;refine Kd.R_append_rows (Kd.int .i64) (w0:=w) w.heap.size rfl (.tmp 5) (.tmp 6) 24 3 (.int .i64 0) 8 rfl Tryz.underlying24 Qdq rfl (by decide) (by omega) v109 [] l0 _ _ _ (fun _=>True) (fun _=>False) rfl rfl ?aO ?aR (fun _ _ h=>h) (fun _ h=>h.elim) ?aF ?aB ?aS ?aL ?_;(case aR=>exact (Kd.C_below HR0.out HB.out));(case aB=>exact HB.out);(case aF=>exact (fun _ _=>trivial));(case aO=>exact HO.out);(case aS=>exact HB.out.size);(case aL=>have:=HL.out;simp;omega);intro v112 w5 ho hb hg hat;have HB2:=Zk hb;have HO2:=Zk ho;clear ho hb hg hat))
   go_ret
   exact ⟨_,rfl,by simpa using HO2.out,HB2.out⟩
 ·
  exact absurd h (by simp)
open Go.Proofs.YtkgngggppcmpfaaGreat.X in
theorem Qdn.idx_spec (p:Int→Bool): ∀ (l:List Int) (i:Nat),(Qe1 p l i= -1∧l.filter (fun x=> !p x)=l)∨ ∃ k,k<l.length∧Qe1 p l i=((i+k:Nat):Int)∧(l.take (k+1)).filter (fun x=> !p x)=l.take k
 | [],i=> .inl ⟨rfl,rfl⟩
 |x::l,i=>by
  unfold Qe1
  by_cases h:p x=true
  ·
   rw [if_pos h];exact .inr ⟨0,by simp,by simp,by simp [h]⟩
  ·
   rw [if_neg h];have h':p x=false:=by simpa using h
   rcases Qdn.idx_spec p l (i+1) with ⟨e1,e2⟩|⟨k,hk,e1,e2⟩
   ·
    exact .inl ⟨e1,by rw [List.filter_cons,h'];simp [e2]⟩
   ·
    refine .inr ⟨k+1,by simpa using hk,by rw [e1];congr 1;omega,?_⟩;rw [List.take_succ_cons,List.filter_cons,h',List.take_succ_cons,e2];simp
theorem Qdn.below_cells {B:Nat} {a:World} (b:Nat) (hb:B≤b): ∀ (vs:List Value) (o:Nat) {w:World},Below B a w→Below B a (w.setCells b o vs)
 | [],_,_,h=>h
 |v::r,o,_,h=>Qdn.below_cells b hb r (o+1) (h.setCell (p:=⟨b,o,none⟩) hb v)
theorem Qdn.cleared {g c base e:Nat} {ok:Nat→Prop} (i:Nat): ∀ (m o:Nat) (w:World) (xs:List Int),(Kd.int .i64).R e w base ok (.slice (some ⟨g,0,none⟩) xs.length c) xs→i≤o→
 ∃ ys:List Int,(Kd.int .i64).R e (w.setCells g o (List.replicate m (.int .i64 0))) base ok (.slice (some ⟨g,0,none⟩) ys.length c) ys∧ys.take i=xs.take i∧ys.length=xs.length
 |0,o,w,xs,h,hi=>⟨xs,h,rfl,rfl⟩
 |m+1,o,w,xs,h,hi=>by
  have h1:=(Kd.R_putn h (o:Int) (0:Int))
  rw [Int.toNat_natCast] at h1;have h2:(Kd.int .i64).R e (w.setCell ⟨g,o,none⟩ (.int .i64 0)) base ok (.slice (some ⟨g,0,none⟩) (xs.set o 0).length c) (xs.set o 0):=by rw [List.length_set];exact h1
  obtain ⟨ys,y1,y2,y3⟩:=Qdn.cleared i m (o+1) _ _ h2 (by omega);exact ⟨ys,y1,by rw [y2,List.take_set_of_le hi],by rw [y3,List.length_set]⟩
theorem Qdn.keep {l dk:List Int} {p:Int→Bool} {i j:Nat} (hi:i<j) (hj:j<l.length) (hlen:dk.length=l.length) (h1:dk.take i=(l.take j).filter (fun x=> !p x)) (h2:dk.drop j=l.drop j):
 rd dk (j:Int)=l[j] ∧(p l[j] =true→dk.take i=(l.take (j+1)).filter (fun x=> !p x))∧dk.drop (j+1)=l.drop (j+1)∧
 (p l[j] =false→(dk.set i l[j]).take (i+1)=(l.take (j+1)).filter (fun x=> !p x))∧(dk.set i l[j]).drop (j+1)=l.drop (j+1):=by
 have e0:dk[j]? =l[j]? :=by
  have:=congrArg (fun x=>x[0]?) h2
  simpa using this
 have e1:dk.drop (j+1)=l.drop (j+1):=by
  have:=congrArg (List.drop 1) h2
  rwa [List.drop_drop,List.drop_drop] at this
 refine ⟨?_,fun hp=> ?_,e1,fun hp=> ?_,?_⟩
 ·
  rw [List.getElem?_eq_getElem hj] at e0;simp [rd,List.getD_eq_getElem?_getD,e0]
 ·
  rw [List.take_succ_eq_append_getElem hj,List.filter_append,h1];simp [hp]
 ·
  rw [List.take_succ_eq_append_getElem hj,List.filter_append,←h1,List.take_set,List.take_succ_eq_append_getElem (show i<dk.length by omega)];have e2:(dk.take i).length=i:=by rw [List.length_take];omega
  rw [List.set_append_right _ _ (by omega),e2,Nat.sub_self];simp [hp]
 ·
  rw [List.drop_set_of_lt (by omega),e1]
open Go.Proofs.YtkgngggppcmpfaaGreat.X in
set_option maxHeartbeats 1600000 in
set_option maxRecDepth 100000 in
theorem Qdn.calls (v:Value) (l:List Int) (gF:Nat) (lbF:Array Value) (p:Int→Bool) (w0 w:World) (eg: ∀ args w,(callFunc gF args).run Tryz.prog w= .ok (.enter gF args) w) (hb:Below w0.heap.size w0 w)
 (hr:Kd.R (Kd.int .i64) 3 w w0.heap.size (fun _=>True) v l) (hl:l.length≤9223372036854775806) (hp: ∀ x,x ∈ l→Fv Tryz.prog gF lbF #[.int .i64 x] (.bool (p x)) w0):
 Calls Tryz.prog 168 #[v, .func (.func gF) #[] lbF] w fun e w'=> ∃ v0_:Value,e= .returned v0_∧Kd.R (Kd.int .i64) 3 w' w0.heap.size (fun _=>True) v0_ (l.filter fun x=> !p x)∧Below w0.heap.size w0 w':=by
 obtain ⟨A0,c0,rfl,hlc,hC⟩:=Kd.R_reads hr;have EG:=Zk eg;have HR:=Zk hr;have HP:=Zk hp;have HB0:=Zk hb;have HCC:=Zk hC;have HL:=Zk hl;have HCap:=Zk hlc;clear hr hp hb hC hl hlc;go_enter Tryz.func168,Tryz.ntmps168;go_wp2_with fail;refine (Qf4.calls A0 c0 l gF lbF p _ EG.out HCC.out HL.out (fun x hx=>(HP.out x hx).later HB0.out)).mono ?_;rintro e w1 ⟨rfl,hb⟩;have B1:=Zk (Qbp HB0.out hb);have R1:=Zk (Kd.R_below HR.out hb);clear hb HR HCC HB0;have hs:=Qdn.idx_spec p l 0;have hs:(Qhe p l= -1∧l.filter (fun x=> !p x)=l)∨ ∃ k,k<l.length∧Qhe p l=(k:Int)∧(l.take (k+1)).filter (fun x=> !p x)=l.take k:=by
  rcases hs with h|⟨k,h1,h2,h3⟩
  ·
   exact .inl h
  ·
   exact .inr ⟨k,h1,by rw [Nat.zero_add] at h2;exact h2,h3⟩
 rcases hs with ⟨e1,e2⟩|⟨k0,hk0,e1,e2⟩
 ·
  rw [e1];have E2:=Zk e2;clear e1 e2;go_wp2
  go_ret
  exact ⟨_,rfl,by rw [E2.out];exact R1.out,B1.out⟩
 ·
  rw [e1];have E2:=Zk e2;have hne:((k0:Int)== -1)=false:=beq_eq_false_iff_ne.2 (by omega);obtain ⟨k1,hk1⟩: ∃ k1,k1=k0+1:=⟨_,rfl⟩
  have e3:wrap64 ((k0:Int)+1)=(k1:Int):=by have:=HL.out;unfold wrap64;omega
  rw [←hk1] at E2;have HK1:=Zk hk1;clear hk1;obtain ⟨g,c1,eo,gb,gl,cl,hg⟩:=Kd.R_form R1.out (by omega);cases eo;have GB:=Zk gb;clear e1 e2 gb gl hg;go_wp2
  (try simp only [e3])
  clear e3 hne
  go_loopw [5,6] (fun v5 v6 wr=> ∃ (i j:Nat) (dk:List Int),v5= .int .i64 i∧v6= .int .i64 j∧i<j∧j≤l.length∧Z0 (dk.length=l.length∧dk.take i=(l.take j).filter (fun x=> !p x)∧dk.drop j=l.drop j)∧Z0 (Kd.R (Kd.int .i64) 3 wr w0.heap.size (fun _=>True) (.slice (some ⟨g,0,none⟩) l.length c0) dk)∧Z0 (Below w0.heap.size w0 wr)) (fun _ v6 _=>l.length - (intOf v6).toNat)
  case atStart=>exact ⟨k0,k1,l,rfl,by first|rfl|go_num,by have:=HK1.out;omega,by have:=HK1.out;omega,⟨rfl,E2.out.symm,rfl⟩,R1,B1⟩
  case round=>
   obtain ⟨i,j,dk,rfl,rfl,hij,hjl,HI,HR,HB⟩:=hrel
   by_cases hlt:j<l.length
   ·
    obtain ⟨k1,k2,k3,k4,k5⟩:=Qdn.keep hij hlt HI.out.1 HI.out.2.1 HI.out.2.2;obtain ⟨hx,_⟩:=Kd.R_celln (0:Int) HR.out (j:Int) (by omega) (by omega);have hx:wr.cell? ⟨g,j,none⟩=some (.int .i64 l[j]):=by rw [Int.toNat_natCast] at hx;rw [hx,←k1];rfl
    have e2:wrap64 ((j:Int)+1)=((j+1:Nat):Int):=by have:=HL.out;unfold wrap64;omega
    have e3:wrap64 ((i:Int)+1)=((i+1:Nat):Int):=by have:=HL.out;unfold wrap64;omega
    have HF:=Zk (HP.out _ (List.getElem_mem hlt));have K2:=Zk k2;have K3:=Zk k3;have K4:=Zk k4;have K5:=Zk k5;clear k1 k2 k3 k4 k5;obtain ⟨u,hu⟩: ∃ u,u=l[j] :=⟨_,rfl⟩
    rw [←hu] at hx HF K2 K4 K5;clear hu;cases hq:p u with
    |true=>
     rw [hq] at HF;have HQ:=Zk hq;clear hq;go_wp2_with (go_at_fn gF;(with_reducible refine (Fv.calls HF.out HB.out).mono ?_);rintro e w2 ⟨rfl,hb⟩);go_roundw
     case rel=>exact ⟨i,j+1,dk,rfl,by first|rfl|go_num,by omega,by omega,⟨HI.out.1,K2.out HQ.out,K3.out⟩,⟨Kd.R_below HR.out hb⟩,⟨Qbp HB.out hb⟩⟩
     case measure=>(try simp only [e2]);exact (Nat.sub_lt_sub_left (by omega) (Nat.lt_succ_self j):l.length - (j+1)<l.length - j)
    |false=>
     rw [hq] at HF;have HQ:=Zk hq;clear hq;have hi1:(i:Int)<(l.length:Int):=by omega
     have hi0:0≤(i:Int):=by omega
     go_wp2_with (go_at_fn gF;(with_reducible refine (Fv.calls HF.out HB.out).mono ?_);rintro e w2 ⟨rfl,hb⟩;have R2:=Zk (Kd.R_below HR.out hb);have B2:=Zk (Qbp HB.out hb);obtain ⟨hy,hz⟩:=Kd.R_celln (0:Int) R2.out (i:Int) (by omega) (by omega);rw [Int.toNat_natCast] at hy hz;clear hb);go_roundw
     case rel=>
      have P2:=Kd.R_putg R2.out (i:Int) u;rw [Int.toNat_natCast] at P2;exact ⟨i+1,j+1,dk.set i u,by first|rfl|go_num,by first|rfl|go_num,by omega,by omega,⟨by rw [List.length_set];exact HI.out.1,K4.out HQ.out,K5.out⟩,⟨P2.1⟩,⟨Qbt B2.out GB.out⟩⟩
     case measure=>(try simp only [e2]);exact (Nat.sub_lt_sub_left (by omega) (Nat.lt_succ_self j):l.length - (j+1)<l.length - j)
   ·
    have hj:j=l.length:=by omega
    subst hj;obtain ⟨h1,h2,h3⟩:=HI.out;rw [List.take_of_length_le (Nat.le_refl _)] at h2;have hin:i≤dk.length:=by omega
    obtain ⟨ys,y1,y2,y3⟩:=Qdn.cleared (g:=g) (c:=c0) i (l.length - i) i wr dk (by rw [h1];exact HR.out) (Nat.le_refl _);have Y1:=Zk (Kd.R_take y1 (show i≤ys.length by omega));have Y2:=Zk (show (l.filter fun x=> !p x)=ys.take i by rw [y2,h2]);have Y3:=Zk (Qdn.below_cells g GB.out (List.replicate (l.length - i) (.int .i64 0)) i HB.out);have hcl: ∀ ty,(Builtin.clear_ #[24] ty #[.slice (some ⟨g,i,none⟩) (l.length - i) (c0 - i)]).run Tryz.prog wr= .ok (.tuple #[]) (wr.setCells g i (List.replicate (l.length - i) (.int .i64 0))):=
     fun ty=>Lib.run_clear_slice wr 24 3 ty (.int .i64 0) Tryz.underlying24 (fun w=>by kernel_rfl) rfl rfl g i _ _ (by omega)
      (fun t ht=>by obtain ⟨hx,_⟩:=Kd.R_celln (0:Int) HR.out ((i+t:Nat):Int) (by omega) (by omega);rw [Int.toNat_natCast] at hx;rw [hx];rfl)
      (fun t ht=>by obtain ⟨_,hx⟩:=Kd.R_celln (0:Int) HR.out ((i+t:Nat):Int) (by omega) (by omega);rw [Int.toNat_natCast] at hx;exact hx)
    have q1:(i:Int)<(l.length:Int):=by omega
    have q2:(i:Int)≤(l.length:Int):=by omega
    have q3:(l.length:Int)≤(c0:Int):=by have:=HCap.out;omega
    have q4:(i:Int)≤(c0:Int):=by omega
    clear y1 y2 y3 h1 h2 h3;go_wp2
    go_ret
    exact ⟨_,rfl,by rw [Y2.out];exact Y1.out,Y3.out⟩
def Qc6.p (l0:List Int) (s x:Int):Bool:=Go.bits .andNot .i64 (rd l0 x) s !=0
def Qc6.ok (l0 js:List Int):Bool:=js.all fun x=>decide (0≤x) && decide (x<(l0.length:Int))
def Qc6.f (k:Nat) (l0:List Int) (s:Int):Option (List Int):=(Qch.f l0).bind fun t=>(Qb7.f k (Go.bits .andNot .i64 t s)).bind fun js=>if js.length≤9223372036854775806∧Qc6.ok l0 js=true then some (js.filter fun x=> !Qc6.p l0 s x) else none
theorem Qc6.mono: ∀ a0 a1 k,LeO (Qc6.f k a0 a1) (Qc6.f (k+1) a0 a1):=fun l0 s k=>LeO.bind (LeO.refl _) fun t=>LeO.bind (Qb7.mono _ _) fun js=>LeO.refl _
open Go.Proofs.YtkgngggppcmpfaaGreat.X in
set_option maxHeartbeats 800000 in
set_option maxRecDepth 100000 in
theorem Qc6.lit (A0:Option Addr) (c0:Nat) (l0:List Int) (s x:Int) (B1 B2:Nat) (w:World) (hr0:Kd.C (Kd.int .i64) w A0 l0.length l0)
 (q1:w.cell? ⟨B1,0,none⟩=some (.slice A0 l0.length c0)) (q2:w.cell? ⟨B2,0,none⟩=some (.int .i64 s)) (h0:0≤x) (h1:x<(l0.length:Int)):
 Fv Tryz.prog 363 #[.pointer (some ⟨B1,0,none⟩), .pointer (some ⟨B2,0,none⟩)] #[.int .i64 x] (.bool (Qc6.p l0 s x)) w:=by
 intro W hb;have p1:=Qcb hb q1;have p2:=Qcb hb q2;obtain ⟨ad,e1,hx⟩:=Kd.at_int (Kd.C_below hr0 hb) x h0 h1;cases e1;clear hr0 q1 q2 hb;have hu:=Tryz.underlying26;unfold Qc6.p
 by_cases hq:Go.bits .andNot .i64 (rd l0 x) s=0
 ·
  have hq1:decide (Go.bits .andNot .i64 (rd l0 x) s=0)=true:=decide_eq_true hq;have hq2:(Go.bits .andNot .i64 (rd l0 x) s==0)=true:=beq_iff_eq.mpr hq;have hq3:(Go.bits .andNot .i64 (rd l0 x) s !=0)=false:=by rw [bne,hq2];rfl
  have HQ:=Zk hq3;clear hq;go_enter Tryz.func363,Tryz.ntmps363;go_wp2_with fail
  go_region_law (fail)
  all_goals
   go_wp2
   go_ret
   exact ⟨by first|(rw [HQ.out];rfl)|rfl,by first|exact Below.refl _ _|exact Qk (Below.refl _ _) _|exact Qdo (Below.refl _ _)⟩
 ·
  have hq1:decide (Go.bits .andNot .i64 (rd l0 x) s=0)=false:=decide_eq_false hq;have hq2:(Go.bits .andNot .i64 (rd l0 x) s==0)=false:=beq_eq_false_iff_ne.mpr hq;have hq3:(Go.bits .andNot .i64 (rd l0 x) s !=0)=true:=by rw [bne,hq2];rfl
  have HQ:=Zk hq3;clear hq;go_enter Tryz.func363,Tryz.ntmps363;go_wp2_with fail
  go_region_law (fail)
  all_goals
   go_wp2
   go_ret
   exact ⟨by first|(rw [HQ.out];rfl)|rfl,by first|exact Below.refl _ _|exact Qk (Below.refl _ _) _|exact Qdo (Below.refl _ _)⟩
open Go.Proofs.YtkgngggppcmpfaaGreat.X in
set_option maxHeartbeats 1600000 in
set_option maxRecDepth 100000 in
theorem Qc6.calls (k:Nat) (A0_0:Option Addr) (c0_0:Nat) (l0_0:List Int) (a1:Int) (r:List Int) (w:World) (hr0_0:Kd.C (Kd.int .i64) w A0_0 l0_0.length l0_0) (hc0_0:l0_0.length≤c0_0) (h:Qc6.f k l0_0 a1=some r):
 Calls Tryz.prog 344 #[.agg #[.slice A0_0 l0_0.length c0_0], .int .i64 a1] w fun e w'=> ∃ v0_:Value,e= .returned v0_∧Kd.R (Kd.int .i64) 3 w' w.heap.size (fun _=>True) v0_ r∧Below w.heap.size w w':=by
 have HR:=Zk hr0_0;have HC:=Zk hc0_0;clear hr0_0 hc0_0;unfold Qc6.f at h;obtain ⟨t,ht,h⟩:=Option.bind_eq_some_iff.mp h;obtain ⟨js,hjs,h⟩:=Option.bind_eq_some_iff.mp h
 split at h
 ·
  rename_i hc;have HE:=Zk (Option.some.inj h);have HT:=Zk ht;have HJ:=Zk hjs;have HO:=Zk hc;clear h ht hjs hc;have hu:=Tryz.underlying26;go_enter Tryz.func344,Tryz.ntmps344;have GR:=Zk (fun x (hx:x ∈ js)=>by have h:=(List.all_eq_true.mp HO.out.2) x hx;simp only [Bool.and_eq_true,decide_eq_true_eq] at h;exact h: ∀ x ∈ js,0≤x∧x<(l0_0.length:Int));go_wp2_with fail
  go_region_law (first
   |(rw [if_pos (by rfl)];go_simp;go_at_call 290;refine (Qch.calls _ _ l0_0 t _ (Kd.C_below HR.out (Q2 (Qj (Qj (Below.refl _ _) _) _))) HC.out HT.out).mono ?_;rintro e w1 ⟨rfl,hb⟩;have z1:w1.cell? ⟨w.heap.size,0,none⟩=some (.slice A0_0 l0_0.length c0_0):=Qcb hb (by simp);have z2:w1.cell? ⟨w.heap.size+1,0,none⟩=some (.int .i64 a1):=Qcb hb (by simp);have B1:=Zk (Qbp (Q2 (Qj (Qj (Below.refl w.heap.size w) _) _)) hb);clear hb;dsimp only)
   |(rw [if_pos (by rfl)];go_simp;go_at_call 277;refine (Qb7.calls k _ js _ HJ.out).mono ?_;rintro e w2 ⟨vJ,rfl,hR,hb⟩;have R2:=Zk hR;have B2:=Zk hb;clear hR hb;dsimp only)
   |(rw [if_pos (by rfl)];go_simp;go_at_call 168;refine (Qdn.calls vJ js 363 #[.pointer (some ⟨w.heap.size,0,none⟩), .pointer (some ⟨w.heap.size+1,0,none⟩)] (Qc6.p l0_0 a1) w1 _ (Qet Tryz.func363 (by kernel_rfl) rfl) B2.out R2.out HO.out.1 (fun x hx=>Qc6.lit A0_0 c0_0 l0_0 a1 x _ _ w1 (Kd.C_below HR.out B1.out) z1 z2 (GR.out x hx).1 (GR.out x hx).2)).mono ?_;rintro e w3 ⟨v3,rfl,hR,hb⟩;have R3:=Zk (Kd.R_lower hR B1.out.size);have B3:=Zk (Qbp B1.out hb);clear hR hb;dsimp only))
  all_goals
   go_wp2
   go_ret
   exact ⟨_,rfl,by rw [←HE.out];exact R3.out,B3.out⟩
 ·
  cases h
end Go.Proofs.YtkgngggppcmpfaaGreat.L
end
