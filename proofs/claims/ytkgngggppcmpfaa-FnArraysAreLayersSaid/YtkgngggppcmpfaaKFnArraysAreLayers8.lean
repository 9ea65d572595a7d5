/- Laws about the given program: the law FnArraysAreLayers answers true for every input that its row lets in; no condition is added to the given statement. Contracts of the Go functions that it reaches, and the plain proof over lists. -/
import Derived.Test.YtkgngggppcmpfaaWFnArraysAreLayers0
import Derived.Test.YtkgngggppcmpfaaKFnArraysAreLayers0
import Derived.Test.YtkgngggppcmpfaaKFnArraysAreLayers1
import Derived.Test.YtkgngggppcmpfaaKFnArraysAreLayers2
import Derived.Test.YtkgngggppcmpfaaKFnArraysAreLayers3
import Derived.Test.YtkgngggppcmpfaaKFnArraysAreLayers4
import Derived.Test.YtkgngggppcmpfaaKFnArraysAreLayers5
import Derived.Test.YtkgngggppcmpfaaKFnArraysAreLayers6
import Derived.Test.YtkgngggppcmpfaaKFnArraysAreLayers7
section
namespace Go.Proofs.Ytkgngggppcmpfaa.L
open Go.RowKit Go.Proofs.YtkgngggppcmpfaaW.PrintWords Go.Proofs.YtkgngggppcmpfaaW.PrintLast Go.Proofs.YtkgngggppcmpfaaW.PrintMore Go.Proofs.Ytkgngggppcmpfaa.X
attribute [local go_sem] Qbd Qbf Qbn Qbo Q3 Q4 Qbe Qbg
set_option linter.unusedVariables false
set_option linter.unusedSimpArgs false
mutual
def Ql.j0:Nat→Int→Bool→List Int→Option (Int × Bool)
 |0,_,_,_=>none
 |k+1,x1,x31,x742000=>if x31=true then (some (0,false)) else ((Qb7.f k x742000).bind fun t744=>(if 0≤(t744.length:Int) then (if ((t744.length:Int):Int).toNat≤35184372088832 then ((some (List.replicate ((t744.length:Int):Int).toNat 0:List Int)).bind fun y747=>(Ql.l0 k x1 t744 y747 (y747.length:Int) 0)) else (none)) else (none)))
def Ql.l0:Nat→Int→List Int→List Int→Int→Int→Option (Int × Bool)
 |0,_,_,_,_,_=>none
 |k+1,x1,x6,x7,x38,x39=>if x39<x38 then (if 0≤x39 then (if x39<(x7.length:Int) then (Ql.l0 k x1 x6 (x7.set (x39:Int).toNat 1) x38 (wrap64 (x39+1))) else (none)) else (none)) else (Ql.l1 k x1 x6 x7 1)
def Ql.l1:Nat→Int→List Int→List Int→Int→Option (Int × Bool)
 |0,_,_,_,_=>none
 |k+1,x1,x6,x7,x9=>if x9<x1 then (if 0≤(x6.length:Int) then (if ((x6.length:Int):Int).toNat≤35184372088832 then (Ql.l2 k x1 x6 x7 x9 (List.replicate ((x6.length:Int):Int).toNat 0) x6 (x6.length:Int) 0) else (none)) else (none)) else (if x1=0 then (some (1,true)) else (Ql.l4 k 0 x7 (x7.length:Int) 0))
def Ql.l2:Nat→Int→List Int→List Int→Int→List Int→List Int→Int→Int→Option (Int × Bool)
 |0,_,_,_,_,_,_,_,_=>none
 |k+1,x1,x6,x7,x9,x10,x54,x55,x56=>if x56<x55 then (if 0≤x56 then (if x56<(x54.length:Int) then (Ql.l3 k x1 x6 x7 x9 x10 x56 (rd x54 x56) x54 x55 x56 x6 (x6.length:Int) 0) else (none)) else (none)) else (Ql.l1 k x1 x6 x10 (wrap64 (x9+1)))
def Ql.l3:Nat→Int→List Int→List Int→Int→List Int→Int→Int→List Int→Int→Int→List Int→Int→Int→Option (Int × Bool)
 |0,_,_,_,_,_,_,_,_,_,_,_,_,_=>none
 |k+1,x1,x6,x7,x9,x10,x11,x12,x54,x55,x56,x61,x62,x63=>if x63<x62 then (if 0≤x63 then (if x63<(x61.length:Int) then (if (Go.bits .andNot .i64 (rd x61 x63) x12)=0 then (if 0≤x11 then (if x11<(x10.length:Int) then (if x63<(x7.length:Int) then (Ql.l3 k x1 x6 x7 x9 (x10.set (x11:Int).toNat (wrap64 ((rd x10 x11)+(rd x7 x63)))) x11 x12 x54 x55 x56 x61 x62 (wrap64 (x63+1))) else (none)) else (none)) else (none)) else (Ql.l3 k x1 x6 x7 x9 x10 x11 x12 x54 x55 x56 x61 x62 (wrap64 (x63+1)))) else (none)) else (none)) else (Ql.l2 k x1 x6 x7 x9 x10 x54 x55 (wrap64 (x56+1)))
def Ql.l4:Nat→Int→List Int→Int→Int→Option (Int × Bool)
 |0,_,_,_,_=>none
 |k+1,x15,x87,x88,x89=>if x89<x88 then (if 0≤x89 then (if x89<(x87.length:Int) then (Ql.l4 k (wrap64 (x15+(rd x87 x89))) x87 x88 (wrap64 (x89+1))) else (none)) else (none)) else (some (x15,true))
end
def Ql.f (k:Nat) (l0_0:List Int) (a1:Int):Option (Int × Bool):=(Qx.f k l0_0).bind fun t742=>(if t742=true then (if (l0_0.length:Int)>6 then (Ql.j0 k a1 true l0_0) else ((Qdj.f a1).bind fun t743=>(Ql.j0 k a1 (!t743) l0_0))) else (Ql.j0 k a1 true l0_0))
theorem Ql.mono_l: ∀ k,(∀ y0 y1 y2,LeO (Ql.j0 k y0 y1 y2) (Ql.j0 (k+1) y0 y1 y2))∧(∀ y0 y1 y2 y3 y4,LeO (Ql.l0 k y0 y1 y2 y3 y4) (Ql.l0 (k+1) y0 y1 y2 y3 y4))∧(∀ y0 y1 y2 y3,LeO (Ql.l1 k y0 y1 y2 y3) (Ql.l1 (k+1) y0 y1 y2 y3))∧(∀ y0 y1 y2 y3 y4 y5 y6 y7,LeO (Ql.l2 k y0 y1 y2 y3 y4 y5 y6 y7) (Ql.l2 (k+1) y0 y1 y2 y3 y4 y5 y6 y7))∧(∀ y0 y1 y2 y3 y4 y5 y6 y7 y8 y9 y10 y11 y12,LeO (Ql.l3 k y0 y1 y2 y3 y4 y5 y6 y7 y8 y9 y10 y11 y12) (Ql.l3 (k+1) y0 y1 y2 y3 y4 y5 y6 y7 y8 y9 y10 y11 y12))∧(∀ y0 y1 y2 y3,LeO (Ql.l4 k y0 y1 y2 y3) (Ql.l4 (k+1) y0 y1 y2 y3))
 |0=>⟨fun _ _ _ r h=>by simp [Ql.j0] at h,fun _ _ _ _ _ r h=>by simp [Ql.l0] at h,fun _ _ _ _ r h=>by simp [Ql.l1] at h,fun _ _ _ _ _ _ _ _ r h=>by simp [Ql.l2] at h,fun _ _ _ _ _ _ _ _ _ _ _ _ _ r h=>by simp [Ql.l3] at h,fun _ _ _ _ r h=>by simp [Ql.l4] at h⟩
 |k+1=>by
  obtain ⟨ih0,ih1,ih2,ih3,ih4,ih5⟩:=Ql.mono_l k;refine ⟨?_,?_,?_,?_,?_,?_⟩
  all_goals
   intros
   first|unfold Ql.j0|unfold Ql.l0|unfold Ql.l1|unfold Ql.l2|unfold Ql.l3|unfold Ql.l4
   repeat' (with_reducible first|apply ih0|apply ih1|apply ih2|apply ih3|apply ih4|apply ih5|apply Qx.mono|apply Qb7.mono|exact LeO.refl _|exact LeO.none _|refine LeO.ite ?_ ?_|refine LeO.bind ?_ (fun _=> ?_))
theorem Ql.mono: ∀ a0 a1 k,LeO (Ql.f k a0 a1) (Ql.f (k+1) a0 a1):=by
 intro a0 a1 k;obtain ⟨ih0,ih1,ih2,ih3,ih4,ih5⟩:=Ql.mono_l k;unfold Ql.f
 repeat' (with_reducible first|apply ih0|apply ih1|apply ih2|apply ih3|apply ih4|apply ih5|apply Qx.mono|apply Qb7.mono|exact LeO.refl _|exact LeO.none _|refine LeO.ite ?_ ?_|refine LeO.bind ?_ (fun _=> ?_))
def Ql.T21:Bool × List (List Nat × List Nat):=(true,[([],[]),([],[]),([0,1],[0,1]),([2],[2]),([],[]),([],[]),([4,5],[4,5]),([6],[6]),([3,7],[3,7]),([0,1,0,1,2,3,4,5,6,7,8],[0,1]),([9,8,0,1,2,3,4,5,6,7,8],[8,9])])
def Ql.B21:List Nat:= [0,0,3,7,0,0,48,112,255,511,1023]
theorem Ql.tab21:rtab .any (Qfx Try.f54 21)=Ql.T21:=by kernel_rfl
theorem Ql.bits21:Qem Ql.T21.2 Ql.B21=true:=by kernel_rfl
set_option maxHeartbeats 8000000 in
set_option maxRecDepth 100000 in
theorem Ql.calls (k:Nat) (A0_0:Option Addr) (c0_0:Nat) (l0_0:List Int) (a1:Int) (r1:Int) (r2:Bool) (w:World) (hr0_0:Kd.C (Kd.int .i64) w A0_0 l0_0.length l0_0) (hc0_0:l0_0.length≤c0_0) (h:Ql.f k l0_0 a1=some (r1,r2)):
 Calls Try.prog 54 #[.agg #[.slice A0_0 l0_0.length c0_0], .int .i64 a1] w fun e w'=>e= .returned (.tuple #[.int .i64 r1, .bool r2])∧Below w.heap.size w w':=by
 have hu26:=Try.underlying26;have HR0_0:=Zk hr0_0;have HC0_0:=Zk hc0_0;clear hr0_0 hc0_0;have HB:=Zk (Below.refl w.heap.size w);have H:((Qx.f k l0_0).bind fun t742=>(if t742=true then (if (l0_0.length:Int)>6 then (Ql.j0 k a1 true l0_0) else ((Qdj.f a1).bind fun t743=>(Ql.j0 k a1 (!t743) l0_0))) else (Ql.j0 k a1 true l0_0)))=some (r1,r2):=h;clear h;have HC3:=Zk H;clear H;go_enter Try.func54,Try.ntmps54;go_upto_region 1 with (first|((with_reducible refine Qb2 (N:=2) rfl ?_);(try (refine Qcx (by rfl) ?_;dsimp only));refine bE (N:=2) (cs:= #[.slice A0_0 l0_0.length c0_0]) (t:=26) ?_;intro gb741 hg w4 hbox hb;have BK741:=Zk (hbox);have GW741:=Zk ((by rw [hg];exact (Qh (uB HB)):w.heap.size≤gb741));have GE741:=GW741;replace HB:=Zk (Qc (uB HB) hb);clear hb hbox hg))
 (try simp only [Act.put,List.setIfInBounds_toArray,List.set_cons_zero,List.set_cons_succ])
 go_cut [31] (fun v31 wc=> ∃ (kq:Nat) (x31_2:Bool),v31= .bool x31_2∧Z0 (Ql.j0 kq a1 x31_2 l0_0=some (r1,r2))∧Z0 (kq≤k)∧Z0 (wc.heap[gb741]? =some (.cells #[(.slice A0_0 l0_0.length c0_0)] 26 (0,0)))∧Z0 (Below w.heap.size w wc))
 case first=>
  have H:=HC3.out;clear HC3;obtain ⟨t742,A5,H⟩:=bs H;(try dsimp only at H)
  by_cases c6:t742=true
  ·
   subst c6;rw [if_pos rfl] at H
   by_cases c7:(l0_0.length:Int)>6
   ·
    rw [if_pos c7] at H;have c7b0:=decide_eq_true c7;have c7b1:decide (6<l0_0.length)=true:=decide_eq_true (by omega);clear c7
    (first|rw [c7b0] |(simp only [Qci,Qdb];rw [c7b0])|skip)
    have H':=Zk H;clear H;have hcz8_0:=bC BK741;have hfz8_0:=Qg BK741.out 0;go_wp2_with (first|(refine gA (some 19) Try.func88 #[.agg #[.slice A0_0 l0_0.length c0_0]] ?_;(with_reducible refine (Qx.calls k _ _ l0_0 true _ (uD HR0_0 HB) HC0_0.out A5.out).mono ?_);rintro e w9 ⟨rfl,hb⟩;refine ⟨_,rfl,?_⟩;replace BK741:=Zk (Qd (uK BK741) hb);replace HB:=Zk (Qc (vB HB) hb);(try clear hb);have hcz10_0:=bC BK741;have hfz10_0:=Qg BK741.out 0))
    go_meet
    case rel=>exact ⟨_,(true),(by first|rfl|(simp;done)|(simp [*];done)),H',⟨by first|omega|exact Nat.le_refl _⟩,⟨uK BK741⟩,⟨(vB HB)⟩⟩
   ·
    rw [if_neg c7] at H;have c7b0:=decide_eq_false c7;have c7b1:decide (6<l0_0.length)=false:=decide_eq_false (by omega);clear c7
    (first|rw [c7b0] |(simp only [Qci,Qdb];rw [c7b0])|skip)
    obtain ⟨t743,A11,H⟩:=bs H;(try dsimp only at H)
    have H':=Zk H;clear H;have hcz12_0:=bC BK741;have hfz12_0:=Qg BK741.out 0;go_wp2_with (first|(refine gA (some 19) Try.func88 #[.agg #[.slice A0_0 l0_0.length c0_0]] ?_;(with_reducible refine (Qx.calls k _ _ l0_0 true _ (uD HR0_0 HB) HC0_0.out A5.out).mono ?_);rintro e w13 ⟨rfl,hb⟩;refine ⟨_,rfl,?_⟩;replace BK741:=Zk (Qd (uK BK741) hb);replace HB:=Zk (Qc (vB HB) hb);(try clear hb);have hcz14_0:=bC BK741;have hfz14_0:=Qg BK741.out 0)|(go_at_call 89;(with_reducible refine (Qdj.calls a1 t743 _ A11.out).mono ?_);rintro e w' ⟨rfl,⟨nd,rfl⟩⟩))
    go_meet
    case rel=>exact ⟨_,(!t743),(by first|rfl|(simp;done)|(simp [*];done)),H',⟨by first|omega|exact Nat.le_refl _⟩,⟨uK BK741⟩,⟨(vB HB)⟩⟩
  ·
   replace c6:=Bool.eq_false_iff.mpr c6;subst c6;rw [if_neg (show ¬ (false=true) by decide)] at H;have H':=Zk H;clear H;have hcz15_0:=bC BK741;have hfz15_0:=Qg BK741.out 0;go_wp2_with (first|(refine gA (some 19) Try.func88 #[.agg #[.slice A0_0 l0_0.length c0_0]] ?_;(with_reducible refine (Qx.calls k _ _ l0_0 false _ (uD HR0_0 HB) HC0_0.out A5.out).mono ?_);rintro e w16 ⟨rfl,hb⟩;refine ⟨_,rfl,?_⟩;replace BK741:=Zk (Qd (uK BK741) hb);replace HB:=Zk (Qc (vB HB) hb);(try clear hb)))
   go_meet
   case rel=>exact ⟨_,(true),(by first|rfl|(simp;done)|(simp [*];done)),H',⟨by first|omega|exact Nat.le_refl _⟩,⟨uK BK741⟩,⟨(vB HB)⟩⟩
 case rest=>
  clear HC3
  skip
  obtain ⟨kq,x31_2,rfl,HA,HJ2,BK741,HB⟩:=hcut;cases kq with
  |zero=>exact absurd HA.out (by simp [Ql.j0])
  |succ kj2=>
   have H:=HA.out;clear HA;simp only [Ql.j0] at H
   by_cases c17:x31_2=true
   ·
    subst c17;rw [if_pos rfl] at H;simp only [Option.some.injEq,Prod.mk.injEq] at H;obtain ⟨rfl,rfl⟩:=H;go_wp2
    go_ret2
    exact ⟨by first|rfl|(simp [Qe,Qf] <;>rfl)|(simp [*,Qe,Qf] <;>rfl),(vB HB)⟩
   ·
    replace c17:=Bool.eq_false_iff.mpr c17;subst c17;rw [if_neg (show ¬ (false=true) by decide)] at H;obtain ⟨t744,A18,H⟩:=bs H;(try dsimp only at H)
    by_cases c19:0≤(t744.length:Int)
    ·
     rw [if_pos c19] at H;have c19b0:=eq_true c19;have c19b1:=decide_eq_true c19;clear c19
     by_cases c20:((t744.length:Int):Int).toNat≤35184372088832
     ·
      rw [if_pos c20] at H;have c20b0:=eq_true c20;have c20b1:=decide_eq_true c20;clear c20;obtain ⟨y747,hy747⟩: ∃ y_:List Int,y_=(List.replicate ((t744.length:Int):Int).toNat 0):=⟨_,rfl⟩
      replace H:(Ql.l0 kj2 a1 t744 y747 (y747.length:Int) 0)=some (r1,r2):=by first|(rw [hy747];with_reducible exact H)|(have H2_:=(Option.bind_some _ _).symm.trans H;rw [hy747];with_reducible exact H2_)|(have H2_:=(Option.bind_some _ _).symm.trans H;with_reducible exact H2_)|with_reducible exact H|(rw [hy747];exact H)|exact H
      have Ny747:=Zk hy747;clear hy747;have H':=Zk H;clear H;have hcz21_0:=bC BK741;have hfz21_0:=Qg BK741.out 0;go_wp2_with (first|(refine gA (some 33) Try.func111 #[.agg #[.slice A0_0 l0_0.length c0_0]] ?_;(with_reducible refine (Qb7.calls kj2 _ _ l0_0 t744 _ (uD HR0_0 HB) HC0_0.out A18.out).mono ?_);rintro e w22 ⟨v745,rfl,ho0,hb⟩;refine ⟨_,rfl,?_⟩;have HO746:=Zk (Kd.R_lower ho0 (Qh (vB HB)));replace BK741:=Zk (Qd (uK BK741) hb);replace HB:=Zk (Qc (vB HB) hb);(try clear hb ho0);obtain ⟨Ao23,co23,eo23⟩:=Kd.R_slice HO746.out;subst eo23)|((with_reducible refine Qb2 (N:=36) rfl ?_);(try (refine Qcx (by rfl) ?_;dsimp only));refine Kd.R_make (Kd.int .i64) _ 3 rfl (N:=36) rfl 24 _ _ rfl (t744.length:Int) rfl rfl Try.underlying24 (.int .i64 0) 8 Qed rfl (by decide) (by omega) 0 (ok:=fun _=>True) (okp:=fun _=>True) rfl (fun _ hk=>hk) trivial (of_decide_eq_true (by first|(with_reducible assumption)|assumption)) (Nat.le_trans (Nat.mul_le_mul_right _ (of_decide_eq_true (by first|(with_reducible assumption)|assumption):(t744.length:Int).toNat≤35184372088832)) (by omega)) (Below.refl _ _) (Nat.le_refl _) ?_;intro v748 w24 ho25 hb hg_ hnew_;clear hg_ hnew_;(first|rw [←Ny747.out] at ho25|(simp only [Int.reduceToNat] at ho25;rw [←Ny747.out] at ho25));have HO749:=Zk (Kd.R_lower (Kd.R_new' ho25 (Kd.R_lt (uR HO746))) (Qh (vB HB)));replace HO746:=Zk (Kd.R_elder' (uR HO746) (Kd.R_base ho25) hb);replace BK741:=Zk (Qd (uK BK741) hb);replace HB:=Zk (Qc (vB HB) hb);clear hb ho25;obtain ⟨Ao26,co26,eo26⟩:=Kd.R_slice HO749.out;subst eo26))
      go_loopg [39] kj2 (fun kq v39 w'=> ∃ (x7_2:List Int) (x39_2:Int),v39= .int .i64 x39_2∧Z0 (Ql.l0 kq a1 t744 x7_2 (y747.length:Int) x39_2=some (r1,r2))∧Z0 (kq≤kj2)∧Z0 (Kd.R (Kd.int .i64) 3 w' w.heap.size (fun k_=>some k_≠((.slice Ao26 y747.length co26):Value).ownBlock) (.slice Ao23 t744.length co23) t744)∧Z0 (Kd.R (Kd.int .i64) 3 w' w.heap.size (fun k_=>some k_≠((.slice Ao23 t744.length co23):Value).ownBlock) (.slice Ao26 y747.length co26) x7_2)∧Z0 (w'.heap[gb741]? =some (.cells #[(.slice A0_0 l0_0.length c0_0)] 26 (0,0)))∧Z0 (Below w.heap.size w w'))
      case atStart=>exact ⟨(y747),(0),(by first|rfl|(simp;done)|(simp [*];done)),H',⟨Nat.le_refl _⟩,⟨Kd.R_mono (uR HO746) (fun _ hk=>hk.2)⟩,⟨Kd.R_mono (uR HO749) (fun _ hk=>hk.2)⟩,⟨uK BK741⟩,⟨(vB HB)⟩⟩
      case round=>
       clear H'
       try clear c19b0 c19b1 c20b0 c20b1 hcz21_0 hfz21_0
       obtain ⟨x7_2,x39_2,rfl,HA,HK2,HO_6,HO_7,BK741,HB⟩:=hrel;have hl7_2:=(Kd.R_reads' HO_7.out).1;rw [hl7_2] at HO_7
       (try simp only [hl7_2])
       (try simp only [hl7_2] at BK741)
       (try simp only [hl7_2] at HO_6)
       cases gk with
       |zero=>exact absurd HA.out (by simp [Ql.l0])
       |succ k2=>
        have H:=HA.out;clear HA;simp only [Ql.l0] at H
        by_cases c27:x39_2<(y747.length:Int)
        ·
         rw [if_pos c27] at H;have c27b0:=decide_eq_true c27
         (try simp only [hl7_2] at c27b0)
         clear c27
         by_cases c28:0≤x39_2
         ·
          rw [if_pos c28] at H;have c28b0:=decide_eq_true c28;clear c28
          by_cases c29:x39_2<(x7_2.length:Int)
          ·
           rw [if_pos c29] at H;have c29b0:=decide_eq_true c29;clear c29;obtain ⟨y750,hy750⟩: ∃ y_:List Int,y_=(x7_2.set (x39_2:Int).toNat 1):=⟨_,rfl⟩
           replace H:(Ql.l0 k2 a1 t744 y750 (y747.length:Int) (wrap64 (x39_2+1)))=some (r1,r2):=by first|(rw [hy750];with_reducible exact H)|(have H2_:=(Option.bind_some _ _).symm.trans H;rw [hy750];with_reducible exact H2_)|(have H2_:=(Option.bind_some _ _).symm.trans H;with_reducible exact H2_)|with_reducible exact H|(rw [hy750];exact H)|exact H
           have Ny750:=Zk hy750;clear hy750;have H':=Zk H;clear H;have p30:0≤(x39_2:Int):=of_decide_eq_true (by first|(with_reducible assumption)|assumption);have q30:(x39_2:Int)<((x7_2.length:Int):Int):=of_decide_eq_true (by first|(with_reducible assumption)|assumption);obtain ⟨go30,co30,eo30,gb30,gl30,cl30,HG30⟩:=Kd.R_form HO_7.out (by omega)
           (first|cases eo30|(injection eo30 with ea_ en_ ec_;(first|subst ea_|(injection ea_ with ea_;subst ea_));subst ec_;clear en_))
           have GB30:=Zk gb30;have GG30:=Zk HG30;clear gb30 gl30 HG30;obtain ⟨hx30_0,hf30_0⟩:=Kd.R_celln 0 HO_7.out (x39_2:Int) p30 q30;replace p30:=eq_true p30;replace q30:=eq_true q30;have HP31:=Kd.R_putg HO_7.out (x39_2:Int) 1;go_wp2_with (first|((with_reducible refine Qf9 (t:=3) (p:=44) rfl ?_);refine Qfv (t:=3) (p:=44) (v:= ?vo_w32) (w1:=(wr.setCell ⟨go30,(x39_2:Int).toNat,none⟩ (.int .i64 1))) ?hg ?ho ?hn ?hr ?_;(case ho=>rfl);(case hg=>rfl);(case hn=>rfl);(case hr=>first|(go_simp;done)|(go_simp;rfl));intro w32 hw;have hg:wr.grownBy w32 (some go30):=(by rw [hw];exact HP31.2);have hp_:Kd.R (Kd.int .i64) 3 w32 w.heap.size (fun k_=>some k_≠(.slice Ao23 t744.length co23:Value).ownBlock) (.slice (some ⟨go30,0,none⟩) x7_2.length co26) y750:=(by rw [hw,Ny750.out];exact HP31.1);clear HP31;replace HO_6:=Zk (Kd.R_after (v:=(.slice (some ⟨go30,0,none⟩) x7_2.length co26)) (v1:=(.slice (some ⟨go30,0,none⟩) x7_2.length co26)) (ok:=(fun _=>True)) (Kd.R_mono (uR HO_6) (fun _ hk=>⟨trivial,hk⟩)) hg (.inl rfl));replace BK741:=Zk (Qb8 (uK BK741) hg (Kd.R_ne HO_7.out BK741.out (by decide)));replace HO_7:=Zk (hp_);replace HB:=Zk ((by rw [hw];exact Q1 (HB.out) GB30.out:Below w.heap.size w w32));clear hg hw hp_))
           (try simp only [←hl7_2])
           go_roundg k2
           case measure=>have:=HJ2.out;have:=HK2.out;omega
           case rel=>exact ⟨(y750),(wrap64 (x39_2+1)),(by first|rfl|(simp;done)|(simp [*];done)),H',⟨by have:=HJ2.out;have:=HK2.out;omega⟩,⟨by (try simp only [hl7_2]);(with_reducible repeat (first|apply Kd.R_alloc|apply Kd.R_drewN|apply Kd.R_drew));exact Kd.R_mono HO_6.out (fun _ hk=>hk.2)⟩,⟨by (try simp only [hl7_2]);(with_reducible repeat (first|apply Kd.R_alloc|apply Kd.R_drewN|apply Kd.R_drew));exact HO_7.out⟩,⟨by (try simp only [hl7_2]);(with_reducible repeat (first|refine Qbp ?_ _|refine Qbj ?_|refine Qbk ?_ _));exact BK741.out⟩,⟨(vB HB)⟩⟩
          ·
           rw [if_neg c29] at H;exact absurd H (by simp)
         ·
          rw [if_neg c28] at H;exact absurd H (by simp)
        ·
         rw [if_neg c27] at H;have c27b0:=decide_eq_false c27
         (try simp only [hl7_2] at c27b0)
         clear c27;have H':=Zk H;clear H;go_wp2
         go_loopg [7,9] k2 (fun kq v7 v9 w'=> ∃ (x6_3:List Int) (x7_3:List Int) (x9_3:Int),v9= .int .i64 x9_3∧Z0 (Ql.l1 kq a1 x6_3 x7_3 x9_3=some (r1,r2))∧Z0 (kq≤k2)∧Z0 (Kd.R (Kd.int .i64) 3 w' w.heap.size (fun k_=>some k_≠(v7:Value).ownBlock) (.slice Ao23 t744.length co23) x6_3)∧Z0 (Kd.R (Kd.int .i64) 3 w' w.heap.size (fun k_=>some k_≠((.slice Ao23 t744.length co23):Value).ownBlock) v7 x7_3)∧Z0 (w'.heap[gb741]? =some (.cells #[(.slice A0_0 l0_0.length c0_0)] 26 (0,0)))∧Z0 (Below w.heap.size w w'))
         case atStart=>exact ⟨(t744),(x7_2),(1),(by first|rfl|(simp;done)|(simp [*];done)),H',⟨Nat.le_refl _⟩,⟨by (try simp only [hl7_2]);(with_reducible repeat (first|apply Kd.R_alloc|apply Kd.R_drewN|apply Kd.R_drew));exact HO_6.out⟩,⟨by (try simp only [hl7_2]);(with_reducible repeat (first|apply Kd.R_alloc|apply Kd.R_drewN|apply Kd.R_drew));exact HO_7.out⟩,⟨by (try simp only [hl7_2]);(with_reducible repeat (first|refine Qbp ?_ _|refine Qbj ?_|refine Qbk ?_ _));exact BK741.out⟩,⟨(vB HB)⟩⟩
         case round=>
          clear H'
          try clear c27b0
          obtain ⟨x6_3,x7_3,x9_3,rfl,HA,HK3,HO_6,HO_7,BK741,HB⟩:=hrel;have hl6_3:=(Kd.R_reads' HO_6.out).1;rw [hl6_3] at HO_6
          (try simp only [hl6_3])
          (try simp only [hl6_3] at BK741)
          (try simp only [hl6_3] at HO_7)
          cases gk with
          |zero=>exact absurd HA.out (by simp [Ql.l1])
          |succ k3=>
           have H:=HA.out;clear HA;simp only [Ql.l1] at H
           by_cases c33:x9_3<a1
           ·
            rw [if_pos c33] at H;have c33b0:=decide_eq_true c33;clear c33
            by_cases c34:0≤(x6_3.length:Int)
            ·
             rw [if_pos c34] at H;have c34b0:=eq_true c34;have c34b1:=decide_eq_true c34;clear c34
             by_cases c35:((x6_3.length:Int):Int).toNat≤35184372088832
             ·
              rw [if_pos c35] at H;have c35b0:=eq_true c35;have c35b1:=decide_eq_true c35;clear c35;obtain ⟨y751,hy751⟩: ∃ y_:List Int,y_=(List.replicate ((x6_3.length:Int):Int).toNat 0):=⟨_,rfl⟩
              replace H:(Ql.l2 k3 a1 x6_3 x7_3 x9_3 y751 x6_3 (x6_3.length:Int) 0)=some (r1,r2):=by first|(rw [hy751];with_reducible exact H)|(have H2_:=(Option.bind_some _ _).symm.trans H;rw [hy751];with_reducible exact H2_)|(have H2_:=(Option.bind_some _ _).symm.trans H;with_reducible exact H2_)|with_reducible exact H|(rw [hy751];exact H)|exact H
              have Ny751:=Zk hy751;clear hy751;have H':=Zk H;clear H;go_wp2_with (first|((with_reducible refine Qb2 (N:=53) rfl ?_);(try (refine Qcx (by rfl) ?_;dsimp only));refine Kd.R_make (Kd.int .i64) _ 3 rfl (N:=53) rfl 24 _ _ rfl (x6_3.length:Int) rfl rfl Try.underlying24 (.int .i64 0) 8 Qed rfl (by decide) (by omega) 0 (ok:=fun _=>True) (okp:=fun _=>True) rfl (fun _ hk=>hk) trivial (of_decide_eq_true (by first|(with_reducible assumption)|assumption)) (Nat.le_trans (Nat.mul_le_mul_right _ (of_decide_eq_true (by first|(with_reducible assumption)|assumption):(x6_3.length:Int).toNat≤35184372088832)) (by omega)) (Below.refl _ _) (Nat.le_refl _) ?_;intro v752 w36 ho37 hb hg_ hnew_;clear hg_ hnew_;(first|rw [←Ny751.out] at ho37|(simp only [Int.reduceToNat] at ho37;rw [←Ny751.out] at ho37));have HO753:=Zk (Kd.R_lower (Kd.R_new' (Kd.R_new' ho37 (Kd.R_lt (uR HO_6))) (Kd.R_lt (uR HO_7))) (Qh (vB HB)));replace HO_6:=Zk (Kd.R_elder' (uR HO_6) (Kd.R_base ho37) hb);replace HO_7:=Zk (Kd.R_elder' (uR HO_7) (Kd.R_base ho37) hb);replace BK741:=Zk (Qd (uK BK741) hb);replace HB:=Zk (Qc (vB HB) hb);clear hb ho37))
              go_loopg [56] k3 (fun kq v56 w'=> ∃ (x10_4:List Int) (x56_4:Int),v56= .int .i64 x56_4∧Z0 (Ql.l2 kq a1 x6_3 x7_3 x9_3 x10_4 x6_3 (x6_3.length:Int) x56_4=some (r1,r2))∧Z0 (kq≤k3)∧Z0 (Kd.R (Kd.int .i64) 3 w' w.heap.size (fun k_=>some k_≠(u7:Value).ownBlock∧some k_≠(v752:Value).ownBlock) (.slice Ao23 x6_3.length co23) x6_3)∧Z0 (Kd.R (Kd.int .i64) 3 w' w.heap.size (fun k_=>some k_≠((.slice Ao23 x6_3.length co23):Value).ownBlock∧some k_≠(v752:Value).ownBlock∧some k_≠((.slice Ao23 x6_3.length co23):Value).ownBlock) u7 x7_3)∧Z0 (Kd.R (Kd.int .i64) 3 w' w.heap.size (fun k_=>some k_≠((.slice Ao23 x6_3.length co23):Value).ownBlock∧some k_≠(u7:Value).ownBlock∧some k_≠((.slice Ao23 x6_3.length co23):Value).ownBlock) v752 x10_4)∧Z0 (Kd.R (Kd.int .i64) 3 w' w.heap.size (fun k_=>some k_≠(u7:Value).ownBlock∧some k_≠(v752:Value).ownBlock) (.slice Ao23 x6_3.length co23) x6_3)∧Z0 (w'.heap[gb741]? =some (.cells #[(.slice A0_0 l0_0.length c0_0)] 26 (0,0)))∧Z0 (Below w.heap.size w w'))
              case atStart=>exact ⟨(y751),(0),(by first|rfl|(simp;done)|(simp [*];done)),H',⟨Nat.le_refl _⟩,⟨by (try simp only [hl7_2]);(try simp only [hl6_3]);(with_reducible repeat (first|apply Kd.R_alloc|apply Kd.R_drewN|apply Kd.R_drew));exact HO_6.out⟩,⟨by (try simp only [hl7_2]);(try simp only [hl6_3]);(with_reducible repeat (first|apply Kd.R_alloc|apply Kd.R_drewN|apply Kd.R_drew));exact Kd.R_mono HO_7.out (fun _ hk=>⟨hk.1,⟨hk.2,hk.1⟩⟩)⟩,⟨by (try simp only [hl7_2]);(try simp only [hl6_3]);(with_reducible repeat (first|apply Kd.R_alloc|apply Kd.R_drewN|apply Kd.R_drew));exact Kd.R_mono HO753.out (fun _ hk=>⟨hk.1.2,⟨hk.2,hk.1.2⟩⟩)⟩,⟨by (try simp only [hl7_2]);(try simp only [hl6_3]);(with_reducible repeat (first|apply Kd.R_alloc|apply Kd.R_drewN|apply Kd.R_drew));exact HO_6.out⟩,⟨by (try simp only [hl7_2]);(try simp only [hl6_3]);(with_reducible repeat (first|refine Qbp ?_ _|refine Qbj ?_|refine Qbk ?_ _));exact BK741.out⟩,⟨(vB HB)⟩⟩
              case round=>
               clear H'
               try clear c33b0 c34b0 c34b1 c35b0 c35b1
               obtain ⟨x10_4,x56_4,rfl,HA,HK4,HO_6,HO_7,HO_10,HO_54,BK741,HB⟩:=hrel;cases gk with
               |zero=>exact absurd HA.out (by simp [Ql.l2])
               |succ k4=>
                have H:=HA.out;clear HA;simp only [Ql.l2] at H
                by_cases c38:x56_4<(x6_3.length:Int)
                ·
                 rw [if_pos c38] at H;have c38b0:=decide_eq_true c38;clear c38
                 by_cases c39:0≤x56_4
                 ·
                  rw [if_pos c39] at H;have c39b0:=decide_eq_true c39;clear c39
                  by_cases c40:x56_4<(x6_3.length:Int)
                  ·
                   rw [if_pos c40] at H;have c40b0:=decide_eq_true c40;clear c40;have H':=Zk H;clear H;have p754:0≤(x56_4:Int):=of_decide_eq_true (by first|(with_reducible assumption)|assumption);have q754:x56_4<(x6_3.length:Int):=of_decide_eq_true (by first|(with_reducible assumption)|assumption);obtain ⟨ad754,e754,hx754_0⟩:=Kd.at_int (Kd.R_reads' HO_54.out).2.2 x56_4 p754 q754;cases e754;replace p754:=eq_true p754;replace q754:=eq_true q754;go_wp2
                   go_loopg [63] k4 (fun kq v63 w'=> ∃ (x10_5:List Int) (x63_5:Int),v63= .int .i64 x63_5∧Z0 (Ql.l3 kq a1 x6_3 x7_3 x9_3 x10_5 x56_4 (rd x6_3 x56_4) x6_3 (x6_3.length:Int) x56_4 x6_3 (x6_3.length:Int) x63_5=some (r1,r2))∧Z0 (kq≤k4)∧Z0 (Kd.R (Kd.int .i64) 3 w' w.heap.size (fun k_=>some k_≠(u7:Value).ownBlock∧some k_≠(v752:Value).ownBlock) (.slice (some ad754) x6_3.length co23) x6_3)∧Z0 (Kd.R (Kd.int .i64) 3 w' w.heap.size (fun k_=>some k_≠((.slice (some ad754) x6_3.length co23):Value).ownBlock∧some k_≠(v752:Value).ownBlock∧some k_≠((.slice (some ad754) x6_3.length co23):Value).ownBlock∧some k_≠((.slice (some ad754) x6_3.length co23):Value).ownBlock) u7 x7_3)∧Z0 (Kd.R (Kd.int .i64) 3 w' w.heap.size (fun k_=>some k_≠((.slice (some ad754) x6_3.length co23):Value).ownBlock∧some k_≠(u7:Value).ownBlock∧some k_≠((.slice (some ad754) x6_3.length co23):Value).ownBlock∧some k_≠((.slice (some ad754) x6_3.length co23):Value).ownBlock) v752 x10_5)∧Z0 (Kd.R (Kd.int .i64) 3 w' w.heap.size (fun k_=>some k_≠(u7:Value).ownBlock∧some k_≠(v752:Value).ownBlock) (.slice (some ad754) x6_3.length co23) x6_3)∧Z0 (Kd.R (Kd.int .i64) 3 w' w.heap.size (fun k_=>some k_≠(u7:Value).ownBlock∧some k_≠(v752:Value).ownBlock) (.slice (some ad754) x6_3.length co23) x6_3)∧Z0 (w'.heap[gb741]? =some (.cells #[(.slice A0_0 l0_0.length c0_0)] 26 (0,0)))∧Z0 (Below w.heap.size w w'))
                   case atStart=>exact ⟨(x10_4),(0),(by first|rfl|(simp;done)|(simp [*];done)),H',⟨Nat.le_refl _⟩,⟨by (try simp only [hl7_2]);(try simp only [hl6_3]);(with_reducible repeat (first|apply Kd.R_alloc|apply Kd.R_drewN|apply Kd.R_drew));exact HO_6.out⟩,⟨by (try simp only [hl7_2]);(try simp only [hl6_3]);(with_reducible repeat (first|apply Kd.R_alloc|apply Kd.R_drewN|apply Kd.R_drew));exact Kd.R_mono HO_7.out (fun _ hk=>⟨hk.1,⟨hk.2.1,⟨hk.2.2,hk.1⟩⟩⟩)⟩,⟨by (try simp only [hl7_2]);(try simp only [hl6_3]);(with_reducible repeat (first|apply Kd.R_alloc|apply Kd.R_drewN|apply Kd.R_drew));exact Kd.R_mono HO_10.out (fun _ hk=>⟨hk.1,⟨hk.2.1,⟨hk.2.2,hk.1⟩⟩⟩)⟩,⟨by (try simp only [hl7_2]);(try simp only [hl6_3]);(with_reducible repeat (first|apply Kd.R_alloc|apply Kd.R_drewN|apply Kd.R_drew));exact HO_54.out⟩,⟨by (try simp only [hl7_2]);(try simp only [hl6_3]);(with_reducible repeat (first|apply Kd.R_alloc|apply Kd.R_drewN|apply Kd.R_drew));exact HO_6.out⟩,⟨by (try simp only [hl7_2]);(try simp only [hl6_3]);(with_reducible repeat (first|refine Qbp ?_ _|refine Qbj ?_|refine Qbk ?_ _));exact BK741.out⟩,⟨(vB HB)⟩⟩
                   case round=>
                    clear H'
                    try clear c38b0 c39b0 c40b0 hx754_0 p754 q754
                    obtain ⟨x10_5,x63_5,rfl,HA,HK5,HO_6,HO_7,HO_10,HO_54,HO_61,BK741,HB⟩:=hrel;cases gk with
                    |zero=>exact absurd HA.out (by simp [Ql.l3])
                    |succ k5=>
                     have H:=HA.out;clear HA;simp only [Ql.l3] at H
                     by_cases c41:x63_5<(x6_3.length:Int)
                     ·
                      rw [if_pos c41] at H;have c41b0:=decide_eq_true c41;clear c41
                      by_cases c42:0≤x63_5
                      ·
                       rw [if_pos c42] at H;have c42b0:=decide_eq_true c42;clear c42
                       by_cases c43:x63_5<(x6_3.length:Int)
                       ·
                        rw [if_pos c43] at H;have c43b0:=decide_eq_true c43;clear c43
                        by_cases c44:(Go.bits .andNot .i64 (rd x6_3 x63_5) (rd x6_3 x56_4))=0
                        ·
                         rw [if_pos c44] at H;have c44b0:((Go.bits .andNot .i64 (rd x6_3 x63_5) (rd x6_3 x56_4))==0)=true:=beq_iff_eq.mpr c44;have c44b1:((Go.bits .andNot .i64 (rd x6_3 x63_5) (rd x6_3 x56_4)) !=0)=false:=bne_eq_false_iff_eq.mpr c44;clear c44
                         by_cases c45:0≤x56_4
                         ·
                          rw [if_pos c45] at H;have c45b0:=decide_eq_true c45;clear c45
                          by_cases c46:x56_4<(x10_5.length:Int)
                          ·
                           rw [if_pos c46] at H;have c46b0:=decide_eq_true c46;clear c46
                           by_cases c47:x63_5<(x7_3.length:Int)
                           ·
                            rw [if_pos c47] at H;have c47b0:=decide_eq_true c47;clear c47;obtain ⟨y758,hy758⟩: ∃ y_:List Int,y_=(x10_5.set (x56_4:Int).toNat (wrap64 ((rd x10_5 x56_4)+(rd x7_3 x63_5)))):=⟨_,rfl⟩
                            replace H:(Ql.l3 k5 a1 x6_3 x7_3 x9_3 y758 x56_4 (rd x6_3 x56_4) x6_3 (x6_3.length:Int) x56_4 x6_3 (x6_3.length:Int) (wrap64 (x63_5+1)))=some (r1,r2):=by first|(rw [hy758];with_reducible exact H)|(have H2_:=(Option.bind_some _ _).symm.trans H;rw [hy758];with_reducible exact H2_)|(have H2_:=(Option.bind_some _ _).symm.trans H;with_reducible exact H2_)|with_reducible exact H|(rw [hy758];exact H)|exact H
                            have Ny758:=Zk hy758;clear hy758;have H':=Zk H;clear H;have p755:0≤(x63_5:Int):=of_decide_eq_true (by first|(with_reducible assumption)|assumption);have q755:x63_5<(x6_3.length:Int):=of_decide_eq_true (by first|(with_reducible assumption)|assumption);obtain ⟨ad755,e755,hx755_0⟩:=Kd.at_int (Kd.R_reads' HO_61.out).2.2 x63_5 p755 q755;obtain rfl:ad754=ad755:=(by injection e755)
                            replace p755:=eq_true p755;replace q755:=eq_true q755
                            try go_wp2
                            replace HO_6:=Zk (Kd.R_drew HO_6.out);replace HO_7:=Zk (Kd.R_drew HO_7.out);replace HO_10:=Zk (Kd.R_drew HO_10.out);replace HO_54:=Zk (Kd.R_drew HO_54.out);replace HO_61:=Zk (Kd.R_drew HO_61.out);replace BK741:=Zk (Qbj BK741.out);replace HB:=Zk (Qbb HB.out);obtain ⟨Ao50,co50,eo50⟩:=Kd.R_slice HO_10.out
                            (first|subst eo50|(injection eo50 with f1_ f2_ f3_;have f4_:=f1_.symm;have f5_:=f3_.symm;clear f1_ f2_ f3_;subst f4_;subst f5_))
                            have p756:0≤(x56_4:Int):=of_decide_eq_true (by first|(with_reducible assumption)|assumption);have q756:x56_4<(x10_5.length:Int):=of_decide_eq_true (by first|(with_reducible assumption)|assumption);obtain ⟨ad756,e756,hx756_0⟩:=Kd.at_int (Kd.R_reads' HO_10.out).2.2 x56_4 p756 q756;cases e756;replace p756:=eq_true p756;replace q756:=eq_true q756;obtain ⟨Ao51,co51,eo51⟩:=Kd.R_slice HO_7.out
                            (first|subst eo51|(injection eo51 with f1_ f2_ f3_;have f4_:=f1_.symm;have f5_:=f3_.symm;clear f1_ f2_ f3_;subst f4_;subst f5_))
                            have p757:0≤(x63_5:Int):=of_decide_eq_true (by first|(with_reducible assumption)|assumption);have q757:x63_5<(x7_3.length:Int):=of_decide_eq_true (by first|(with_reducible assumption)|assumption);obtain ⟨ad757,e757,hx757_0⟩:=Kd.at_int (Kd.R_reads' HO_7.out).2.2 x63_5 p757 q757;cases e757;replace p757:=eq_true p757;replace q757:=eq_true q757;have p48:0≤(x56_4:Int):=of_decide_eq_true (by first|(with_reducible assumption)|assumption);have q48:(x56_4:Int)<((x10_5.length:Int):Int):=of_decide_eq_true (by first|(with_reducible assumption)|assumption);obtain ⟨go48,co48,eo48,gb48,gl48,cl48,HG48⟩:=Kd.R_form HO_10.out (by omega)
                            (first|cases eo48|(injection eo48 with ea_ en_ ec_;(first|subst ea_|(injection ea_ with ea_;subst ea_));subst ec_;clear en_))
                            have GB48:=Zk gb48;have GG48:=Zk HG48;clear gb48 gl48 HG48
                            (first|simp only [Qeu] at hx756_0|skip)
                            obtain ⟨hx48_0,hf48_0⟩:=Kd.R_celln 0 HO_10.out (x56_4:Int) p48 q48;replace p48:=eq_true p48;replace q48:=eq_true q48;have HP52:=Kd.R_putn HO_10.out (x56_4:Int) (wrap64 ((rd x10_5 x56_4)+(rd x7_3 x63_5)));rw [←Ny758.out] at HP52;have HQ52:=Zk HP52;clear HP52;refine sU (n:=11) (S:=fun w'=>w'.cell? ⟨go48,(x56_4).toNat,none⟩=some (.int .i64 (rd x10_5 x56_4))∧w'.cell? (ad757.add (x63_5).toNat)=some (.int .i64 (rd x7_3 x63_5))) (ds:= [10]) ⟨hx756_0,hx757_0⟩ (fun hHeld=> ?_);refine Qe5 Ql.tab21 Ql.bits21 (fun HT_ HW_=> ?_);generalize wr.drew=w49 at HO_6 HO_7 HO_10 HO_54 HO_61 BK741 HB GG48 HQ52 hf48_0 hx48_0 hx756_0 hx757_0 hHeld ⊢;refine pU 0 72 ?_;refine pU 1 73 ?_;refine pU 2 74 ?_;refine pU 4 76 ?_;refine pU 5 77 ?_;refine pU 6 78 ?_;refine tW 3 75 hHeld ?_;refine tW 7 79 hHeld ?_;refine pU 8 80 ?_;refine pU 9 81 ?_;refine lU 10 none fun K hK=> ?_
                            refine sK ?_;refine hK.out _ _ ?_;clear hK K;refine dU ?_
                            try go_wp2
                            go_roundg k5
                            case measure=>have:=HJ2.out;have:=HK2.out;have:=HK3.out;have:=HK4.out;have:=HK5.out;omega
                            case rel=>exact ⟨(y758),(wrap64 (x63_5+1)),(by first|rfl|(simp;done)|(simp [*];done)),H',⟨by have:=HJ2.out;have:=HK2.out;have:=HK3.out;have:=HK4.out;have:=HK5.out;omega⟩,⟨by (try simp only [hl7_2]);(try simp only [hl6_3]);(with_reducible repeat (first|apply Kd.R_alloc|apply Kd.R_drewN|apply Kd.R_drew));exact Kd.R_mono (Kd.R_far (p:=⟨go48,(x56_4:Int).toNat,none⟩) (Kd.R_mono HO_6.out (fun k_ hk=>(⟨hk,fun e_=>hk.2 (by rw [e_];rfl)⟩:_∧k_≠go48))) (fun _ hk=>hk.2) (.int .i64 (wrap64 ((rd x10_5 x56_4)+(rd x7_3 x63_5))))) (fun _ hk=>⟨hk.1.1,hk.1.2⟩)⟩,⟨by (try simp only [hl7_2]);(try simp only [hl6_3]);(with_reducible repeat (first|apply Kd.R_alloc|apply Kd.R_drewN|apply Kd.R_drew));exact Kd.R_mono (Kd.R_far (p:=⟨go48,(x56_4:Int).toNat,none⟩) (Kd.R_mono HO_7.out (fun k_ hk=>(⟨hk,fun e_=>hk.2.1 (by rw [e_];rfl)⟩:_∧k_≠go48))) (fun _ hk=>hk.2) (.int .i64 (wrap64 ((rd x10_5 x56_4)+(rd x7_3 x63_5))))) (fun _ hk=>⟨hk.1.1,⟨hk.1.2.1,⟨hk.1.2.2.1,hk.1.2.2.2⟩⟩⟩)⟩,⟨by (try simp only [hl7_2]);(try simp only [hl6_3]);(with_reducible repeat (first|apply Kd.R_alloc|apply Kd.R_drewN|apply Kd.R_drew));exact HQ52.out⟩,⟨by (try simp only [hl7_2]);(try simp only [hl6_3]);(with_reducible repeat (first|apply Kd.R_alloc|apply Kd.R_drewN|apply Kd.R_drew));exact Kd.R_mono (Kd.R_far (p:=⟨go48,(x56_4:Int).toNat,none⟩) (Kd.R_mono HO_54.out (fun k_ hk=>(⟨hk,fun e_=>hk.2 (by rw [e_];rfl)⟩:_∧k_≠go48))) (fun _ hk=>hk.2) (.int .i64 (wrap64 ((rd x10_5 x56_4)+(rd x7_3 x63_5))))) (fun _ hk=>⟨hk.1.1,hk.1.2⟩)⟩,⟨by (try simp only [hl7_2]);(try simp only [hl6_3]);(with_reducible repeat (first|apply Kd.R_alloc|apply Kd.R_drewN|apply Kd.R_drew));exact Kd.R_mono (Kd.R_far (p:=⟨go48,(x56_4:Int).toNat,none⟩) (Kd.R_mono HO_61.out (fun k_ hk=>(⟨hk,fun e_=>hk.2 (by rw [e_];rfl)⟩:_∧k_≠go48))) (fun _ hk=>hk.2) (.int .i64 (wrap64 ((rd x10_5 x56_4)+(rd x7_3 x63_5))))) (fun _ hk=>⟨hk.1.1,hk.1.2⟩)⟩,⟨by (try simp only [hl7_2]);(try simp only [hl6_3]);(with_reducible repeat (first|refine Qbp ?_ _|refine Qbj ?_|refine Qbk ?_ _));refine Qdf ?_ (by have h_:=Kd.R_ne HO_10.out BK741.out (by decide);intro e_;exact h_ (by rw [e_];rfl)) _;(with_reducible repeat (first|refine Qbp ?_ _|refine Qbj ?_|refine Qbk ?_ _));exact BK741.out⟩,⟨(vB HB)⟩⟩
                           ·
                            rw [if_neg c47] at H;exact absurd H (by simp)
                          ·
                           rw [if_neg c46] at H;exact absurd H (by simp)
                         ·
                          rw [if_neg c45] at H;exact absurd H (by simp)
                        ·
                         rw [if_neg c44] at H;have c44b0:((Go.bits .andNot .i64 (rd x6_3 x63_5) (rd x6_3 x56_4))==0)=false:=beq_eq_false_iff_ne.mpr c44;have c44b1:((Go.bits .andNot .i64 (rd x6_3 x63_5) (rd x6_3 x56_4)) !=0)=true:=bne_iff_ne.mpr c44;have H':=Zk H;clear H;have p755:0≤(x63_5:Int):=of_decide_eq_true (by first|(with_reducible assumption)|assumption);have q755:x63_5<(x6_3.length:Int):=of_decide_eq_true (by first|(with_reducible assumption)|assumption);obtain ⟨ad755,e755,hx755_0⟩:=Kd.at_int (Kd.R_reads' HO_61.out).2.2 x63_5 p755 q755;obtain rfl:ad754=ad755:=(by injection e755)
                         replace p755:=eq_true p755;replace q755:=eq_true q755;go_wp2;go_roundg k5
                         case measure=>have:=HJ2.out;have:=HK2.out;have:=HK3.out;have:=HK4.out;have:=HK5.out;omega
                         case rel=>exact ⟨(x10_5),(wrap64 (x63_5+1)),(by first|rfl|(simp;done)|(simp [*];done)),H',⟨by have:=HJ2.out;have:=HK2.out;have:=HK3.out;have:=HK4.out;have:=HK5.out;omega⟩,⟨by (try simp only [hl7_2]);(try simp only [hl6_3]);(with_reducible repeat (first|apply Kd.R_alloc|apply Kd.R_drewN|apply Kd.R_drew));exact HO_6.out⟩,⟨by (try simp only [hl7_2]);(try simp only [hl6_3]);(with_reducible repeat (first|apply Kd.R_alloc|apply Kd.R_drewN|apply Kd.R_drew));exact HO_7.out⟩,⟨by (try simp only [hl7_2]);(try simp only [hl6_3]);(with_reducible repeat (first|apply Kd.R_alloc|apply Kd.R_drewN|apply Kd.R_drew));exact HO_10.out⟩,⟨by (try simp only [hl7_2]);(try simp only [hl6_3]);(with_reducible repeat (first|apply Kd.R_alloc|apply Kd.R_drewN|apply Kd.R_drew));exact HO_54.out⟩,⟨by (try simp only [hl7_2]);(try simp only [hl6_3]);(with_reducible repeat (first|apply Kd.R_alloc|apply Kd.R_drewN|apply Kd.R_drew));exact HO_61.out⟩,⟨by (try simp only [hl7_2]);(try simp only [hl6_3]);(with_reducible repeat (first|refine Qbp ?_ _|refine Qbj ?_|refine Qbk ?_ _));exact BK741.out⟩,⟨(vB HB)⟩⟩
                       ·
                        rw [if_neg c43] at H;exact absurd H (by simp)
                      ·
                       rw [if_neg c42] at H;exact absurd H (by simp)
                     ·
                      rw [if_neg c41] at H;have c41b0:=decide_eq_false c41;clear c41;have H':=Zk H;clear H;go_wp2;go_roundg k5
                      case measure=>have:=HJ2.out;have:=HK2.out;have:=HK3.out;have:=HK4.out;have:=HK5.out;omega
                      case rel=>exact ⟨(x10_5),(wrap64 (x56_4+1)),(by first|rfl|(simp;done)|(simp [*];done)),H',⟨by have:=HJ2.out;have:=HK2.out;have:=HK3.out;have:=HK4.out;have:=HK5.out;omega⟩,⟨by (try simp only [hl7_2]);(try simp only [hl6_3]);(with_reducible repeat (first|apply Kd.R_alloc|apply Kd.R_drewN|apply Kd.R_drew));exact HO_6.out⟩,⟨by (try simp only [hl7_2]);(try simp only [hl6_3]);(with_reducible repeat (first|apply Kd.R_alloc|apply Kd.R_drewN|apply Kd.R_drew));exact Kd.R_mono HO_7.out (fun _ hk=>⟨hk.1,⟨hk.2.1,hk.2.2.1⟩⟩)⟩,⟨by (try simp only [hl7_2]);(try simp only [hl6_3]);(with_reducible repeat (first|apply Kd.R_alloc|apply Kd.R_drewN|apply Kd.R_drew));exact Kd.R_mono HO_10.out (fun _ hk=>⟨hk.1,⟨hk.2.1,hk.2.2.1⟩⟩)⟩,⟨by (try simp only [hl7_2]);(try simp only [hl6_3]);(with_reducible repeat (first|apply Kd.R_alloc|apply Kd.R_drewN|apply Kd.R_drew));exact HO_54.out⟩,⟨by (try simp only [hl7_2]);(try simp only [hl6_3]);(with_reducible repeat (first|refine Qbp ?_ _|refine Qbj ?_|refine Qbk ?_ _));exact BK741.out⟩,⟨(vB HB)⟩⟩
                  ·
                   rw [if_neg c40] at H;exact absurd H (by simp)
                 ·
                  rw [if_neg c39] at H;exact absurd H (by simp)
                ·
                 rw [if_neg c38] at H;have c38b0:=decide_eq_false c38;clear c38;have H':=Zk H;clear H;go_wp2
                 (try simp only [←hl6_3])
                 go_roundg k4
                 case measure=>have:=HJ2.out;have:=HK2.out;have:=HK3.out;have:=HK4.out;omega
                 case rel=>exact ⟨(x6_3),(x10_4),(wrap64 (x9_3+1)),(by first|rfl|(simp;done)|(simp [*];done)),H',⟨by have:=HJ2.out;have:=HK2.out;have:=HK3.out;have:=HK4.out;omega⟩,⟨by (try simp only [hl7_2]);(try simp only [hl6_3]);(with_reducible repeat (first|apply Kd.R_alloc|apply Kd.R_drewN|apply Kd.R_drew));exact Kd.R_mono HO_6.out (fun _ hk=>hk.2)⟩,⟨by (try simp only [hl7_2]);(try simp only [hl6_3]);(with_reducible repeat (first|apply Kd.R_alloc|apply Kd.R_drewN|apply Kd.R_drew));exact Kd.R_mono HO_10.out (fun _ hk=>hk.1)⟩,⟨by (try simp only [hl7_2]);(try simp only [hl6_3]);(with_reducible repeat (first|refine Qbp ?_ _|refine Qbj ?_|refine Qbk ?_ _));exact BK741.out⟩,⟨(vB HB)⟩⟩
             ·
              rw [if_neg c35] at H;exact absurd H (by simp)
            ·
             rw [if_neg c34] at H;exact absurd H (by simp)
           ·
            rw [if_neg c33] at H;have c33b0:=decide_eq_false c33;clear c33
            by_cases c53:a1=0
            ·
             rw [if_pos c53] at H;have c53b0:(a1==0)=true:=beq_iff_eq.mpr c53;have c53b1:(a1 !=0)=false:=bne_eq_false_iff_eq.mpr c53;clear c53;simp only [Option.some.injEq,Prod.mk.injEq] at H;obtain ⟨rfl,rfl⟩:=H;go_wp2
             go_ret2
             exact ⟨by first|rfl|(simp [Qe,Qf] <;>rfl)|(simp [*,Qe,Qf] <;>rfl),(vB HB)⟩
            ·
             rw [if_neg c53] at H;have c53b0:(a1==0)=false:=beq_eq_false_iff_ne.mpr c53;have c53b1:(a1 !=0)=true:=bne_iff_ne.mpr c53;have H':=Zk H;clear H;obtain ⟨Ao54,co54,eo54⟩:=Kd.R_slice HO_7.out;subst eo54;go_wp2
             go_loopg [15,89] k3 (fun kq v15 v89 w'=> ∃ (x15_4:Int) (x89_4:Int),v15= .int .i64 x15_4∧v89= .int .i64 x89_4∧Z0 (Ql.l4 kq x15_4 x7_3 (x7_3.length:Int) x89_4=some (r1,r2))∧Z0 (kq≤k3)∧Z0 (Kd.R (Kd.int .i64) 3 w' w.heap.size (fun _=>True) (.slice Ao54 x7_3.length co54) x7_3)∧Z0 (w'.heap[gb741]? =some (.cells #[(.slice A0_0 l0_0.length c0_0)] 26 (0,0)))∧Z0 (Below w.heap.size w w'))
             case atStart=>exact ⟨(0),(0),(by first|rfl|(simp;done)|(simp [*];done)),(by first|rfl|(simp;done)|(simp [*];done)),H',⟨Nat.le_refl _⟩,⟨by (try simp only [hl7_2]);(try simp only [hl6_3]);(with_reducible repeat (first|apply Kd.R_alloc|apply Kd.R_drewN|apply Kd.R_drew));exact Kd.R_mono HO_7.out (fun _ hk=>trivial)⟩,⟨by (try simp only [hl7_2]);(try simp only [hl6_3]);(with_reducible repeat (first|refine Qbp ?_ _|refine Qbj ?_|refine Qbk ?_ _));exact BK741.out⟩,⟨(vB HB)⟩⟩
             case round=>
              clear H'
              try clear c33b0 c53 c53b0 c53b1
              obtain ⟨x15_4,x89_4,rfl,rfl,HA,HK4,HO_87,BK741,HB⟩:=hrel;cases gk with
              |zero=>exact absurd HA.out (by simp [Ql.l4])
              |succ k4=>
               have H:=HA.out;clear HA;simp only [Ql.l4] at H
               by_cases c55:x89_4<(x7_3.length:Int)
               ·
                rw [if_pos c55] at H;have c55b0:=decide_eq_true c55;clear c55
                by_cases c56:0≤x89_4
                ·
                 rw [if_pos c56] at H;have c56b0:=decide_eq_true c56;clear c56
                 by_cases c57:x89_4<(x7_3.length:Int)
                 ·
                  rw [if_pos c57] at H;have c57b0:=decide_eq_true c57;clear c57;have H':=Zk H;clear H;have p759:0≤(x89_4:Int):=of_decide_eq_true (by first|(with_reducible assumption)|assumption);have q759:x89_4<(x7_3.length:Int):=of_decide_eq_true (by first|(with_reducible assumption)|assumption);obtain ⟨ad759,e759,hx759_0⟩:=Kd.at_int (Kd.R_reads' HO_87.out).2.2 x89_4 p759 q759;cases e759;replace p759:=eq_true p759;replace q759:=eq_true q759;go_wp2;go_roundg k4
                  case measure=>have:=HJ2.out;have:=HK2.out;have:=HK3.out;have:=HK4.out;omega
                  case rel=>exact ⟨(wrap64 (x15_4+(rd x7_3 x89_4))),(wrap64 (x89_4+1)),(by first|rfl|(simp;done)|(simp [*];done)),(by first|rfl|(simp;done)|(simp [*];done)),H',⟨by have:=HJ2.out;have:=HK2.out;have:=HK3.out;have:=HK4.out;omega⟩,⟨by (try simp only [hl7_2]);(try simp only [hl6_3]);(with_reducible repeat (first|apply Kd.R_alloc|apply Kd.R_drewN|apply Kd.R_drew));exact HO_87.out⟩,⟨by (try simp only [hl7_2]);(try simp only [hl6_3]);(with_reducible repeat (first|refine Qbp ?_ _|refine Qbj ?_|refine Qbk ?_ _));exact BK741.out⟩,⟨(vB HB)⟩⟩
                 ·
                  rw [if_neg c57] at H;exact absurd H (by simp)
                ·
                 rw [if_neg c56] at H;exact absurd H (by simp)
               ·
                rw [if_neg c55] at H;have c55b0:=decide_eq_false c55;clear c55;simp only [Option.some.injEq,Prod.mk.injEq] at H;obtain ⟨rfl,rfl⟩:=H;go_wp2
                go_ret2
                exact ⟨by first|rfl|(simp [Qe,Qf] <;>rfl)|(simp [*,Qe,Qf] <;>rfl),(vB HB)⟩
     ·
      rw [if_neg c20] at H;exact absurd H (by simp)
    ·
     rw [if_neg c19] at H;exact absurd H (by simp)
def Qdu.f (k:Nat) (l0_0:List Int):Option (List Int × Bool):=(Q6.f k l0_0).bind fun t761=>(if t761=true then ((Qb0.f k l0_0).bind fun t762=>(some (t762,true))) else (some (([] :List Int),false)))
theorem Qdu.mono: ∀ a0 k,LeO (Qdu.f k a0) (Qdu.f (k+1) a0):=by
 intro a0 k;unfold Qdu.f
 repeat' (with_reducible first|apply Q6.mono|apply Qb0.mono|exact LeO.refl _|exact LeO.none _|refine LeO.ite ?_ ?_|refine LeO.bind ?_ (fun _=> ?_))
set_option maxHeartbeats 8000000 in
set_option maxRecDepth 100000 in
theorem Qdu.calls (k:Nat) (A0_0:Option Addr) (c0_0:Nat) (l0_0:List Int) (r1:List Int) (r2:Bool) (w:World) (hr0_0:Kd.C (Kd.int .i64) w A0_0 l0_0.length l0_0) (hc0_0:l0_0.length≤c0_0) (h:Qdu.f k l0_0=some (r1,r2)):
 Calls Try.prog 112 #[.agg #[.slice A0_0 l0_0.length c0_0]] w fun e w'=> ∃ v0_:Value,e= .returned (.tuple #[v0_, .bool r2])∧Kd.R (Kd.int .i64) 3 w' w.heap.size (fun _=>True) v0_ r1∧Below w.heap.size w w':=by
 have hu26:=Try.underlying26;have HR0_0:=Zk hr0_0;have HC0_0:=Zk hc0_0;clear hr0_0 hc0_0;have HB:=Zk (Below.refl w.heap.size w);have H:((Q6.f k l0_0).bind fun t761=>(if t761=true then ((Qb0.f k l0_0).bind fun t762=>(some (t762,true))) else (some (([] :List Int),false))))=some (r1,r2):=h;clear h;obtain ⟨t761,A2,H⟩:=bs H;(try dsimp only at H)
 by_cases c3:t761=true
 ·
  subst c3;rw [if_pos rfl] at H;obtain ⟨t762,A4,H⟩:=bs H;(try dsimp only at H)
  simp only [Option.some.injEq,Prod.mk.injEq] at H;obtain ⟨rfl,rfl⟩:=H;go_enter Try.func112,Try.ntmps112;go_wp2_with (first|(refine bE (N:=1) (cs:= #[.slice A0_0 l0_0.length c0_0]) (t:=26) ?_;intro gb760 hg w5 hbox hb;have BK760:=Zk (hbox);have GW760:=Zk ((by rw [hg];exact (Qh (uB HB)):w.heap.size≤gb760));have GE760:=GW760;replace HB:=Zk (Qc (uB HB) hb);clear hb hbox hg;have hcz6_0:=bC BK760;have hfz6_0:=Qg BK760.out 0)|(refine gA (some 5) Try.func75 #[.agg #[.slice A0_0 l0_0.length c0_0]] ?_;(with_reducible refine (Q6.calls k _ _ l0_0 true _ (uD HR0_0 HB) HC0_0.out A2.out).mono ?_);rintro e w7 ⟨rfl,hb⟩;refine ⟨_,rfl,?_⟩;replace BK760:=Zk (Qd (uK BK760) hb);replace HB:=Zk (Qc (vB HB) hb);(try clear hb);have hcz8_0:=bC BK760;have hfz8_0:=Qg BK760.out 0)|(refine gA (some 8) Try.func132 #[.agg #[.slice A0_0 l0_0.length c0_0]] ?_;(with_reducible refine (Qb0.calls k _ _ l0_0 t762 _ (uD HR0_0 HB) HC0_0.out A4.out).mono ?_);rintro e w9 ⟨v763,rfl,ho0,hb⟩;refine ⟨_,rfl,?_⟩;have HO764:=Zk (Kd.R_lower ho0 (Qh (vB HB)));replace BK760:=Zk (Qd (uK BK760) hb);replace HB:=Zk (Qc (vB HB) hb);(try clear hb ho0)))
  go_ret2
  exact ⟨_,by first|rfl|(simp [Qe,Qf] <;>rfl)|(simp [*,Qe,Qf] <;>rfl),uR HO764,(vB HB)⟩
 ·
  replace c3:=Bool.eq_false_iff.mpr c3;subst c3;rw [if_neg (show ¬ (false=true) by decide)] at H;simp only [Option.some.injEq,Prod.mk.injEq] at H;obtain ⟨rfl,rfl⟩:=H;go_enter Try.func112,Try.ntmps112;go_wp2_with (first|(refine bE (N:=1) (cs:= #[.slice A0_0 l0_0.length c0_0]) (t:=26) ?_;intro gb760 hg w10 hbox hb;have BK760:=Zk (hbox);have GW760:=Zk ((by rw [hg];exact (Qh (uB HB)):w.heap.size≤gb760));have GE760:=GW760;replace HB:=Zk (Qc (uB HB) hb);clear hb hbox hg;have hcz11_0:=bC BK760;have hfz11_0:=Qg BK760.out 0)|(refine gA (some 5) Try.func75 #[.agg #[.slice A0_0 l0_0.length c0_0]] ?_;(with_reducible refine (Q6.calls k _ _ l0_0 false _ (uD HR0_0 HB) HC0_0.out A2.out).mono ?_);rintro e w12 ⟨rfl,hb⟩;refine ⟨_,rfl,?_⟩;replace BK760:=Zk (Qd (uK BK760) hb);replace HB:=Zk (Qc (vB HB) hb);(try clear hb)))
  go_ret2
  exact ⟨_,by first|rfl|(simp [Qe,Qf] <;>rfl)|(simp [*,Qe,Qf] <;>rfl),by first|exact Kd.R_nil _ _ _ _ _|exact Kd.N_nil _ _ _ _ _|exact Kd.V_nil _ _ _ _ _|exact Kd.Q_nil _ _ _ _ _|exact Kd.S_nil _ _ _ _ _,(vB HB)⟩
def Qdh.f (k:Nat) (l0_0:List Int):Option (Int × Bool):=(Qdu.f k l0_0).bind fun bt766=>(some ((bt766.1.length:Int),bt766.2))
theorem Qdh.mono: ∀ a0 k,LeO (Qdh.f k a0) (Qdh.f (k+1) a0):=by
 intro a0 k;unfold Qdh.f
 repeat' (with_reducible first|apply Qdu.mono|exact LeO.refl _|exact LeO.none _|refine LeO.ite ?_ ?_|refine LeO.bind ?_ (fun _=> ?_))
set_option maxHeartbeats 8000000 in
set_option maxRecDepth 100000 in
theorem Qdh.calls (k:Nat) (A0_0:Option Addr) (c0_0:Nat) (l0_0:List Int) (r1:Int) (r2:Bool) (w:World) (hr0_0:Kd.C (Kd.int .i64) w A0_0 l0_0.length l0_0) (hc0_0:l0_0.length≤c0_0) (h:Qdh.f k l0_0=some (r1,r2)):
 Calls Try.prog 55 #[.agg #[.slice A0_0 l0_0.length c0_0]] w fun e w'=>e= .returned (.tuple #[.int .i64 r1, .bool r2])∧Below w.heap.size w w':=by
 have hu26:=Try.underlying26;have HR0_0:=Zk hr0_0;have HC0_0:=Zk hc0_0;clear hr0_0 hc0_0;have HB:=Zk (Below.refl w.heap.size w);have H:((Qdu.f k l0_0).bind fun bt766=>(some ((bt766.1.length:Int),bt766.2)))=some (r1,r2):=h;clear h;obtain ⟨⟨t766,t769⟩,A2,H⟩:=bs H;(try dsimp only at H)
 simp only [Option.some.injEq,Prod.mk.injEq] at H;obtain ⟨rfl,rfl⟩:=H;go_enter Try.func55,Try.ntmps55;go_wp2_with (first|(refine bE (N:=1) (cs:= #[.slice A0_0 l0_0.length c0_0]) (t:=26) ?_;intro gb765 hg w3 hbox hb;have BK765:=Zk (hbox);have GW765:=Zk ((by rw [hg];exact (Qh (uB HB)):w.heap.size≤gb765));have GE765:=GW765;replace HB:=Zk (Qc (uB HB) hb);clear hb hbox hg;have hcz4_0:=bC BK765;have hfz4_0:=Qg BK765.out 0)|(refine gA (some 8) Try.func112 #[.agg #[.slice A0_0 l0_0.length c0_0]] ?_;(with_reducible refine (Qdu.calls k _ _ l0_0 t766 t769 _ (uD HR0_0 HB) HC0_0.out A2.out).mono ?_);rintro e w5 ⟨v767,rfl,ho0,hb⟩;refine ⟨_,rfl,?_⟩;have HO768:=Zk (Kd.R_lower ho0 (Qh (vB HB)));replace BK765:=Zk (Qd (uK BK765) hb);replace HB:=Zk (Qc (vB HB) hb);(try clear hb ho0);obtain ⟨Ao6,co6,eo6⟩:=Kd.R_slice HO768.out;subst eo6))
 go_ret2
 exact ⟨by first|rfl|(simp [Qe,Qf] <;>rfl)|(simp [*,Qe,Qf] <;>rfl),(vB HB)⟩
end Go.Proofs.Ytkgngggppcmpfaa.L
end
