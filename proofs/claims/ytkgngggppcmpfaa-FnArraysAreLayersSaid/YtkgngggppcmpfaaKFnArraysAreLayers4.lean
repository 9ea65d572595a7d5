/- Laws about the given program: the law FnArraysAreLayers answers true for every input that its row lets in; no condition is added to the given statement. Contracts of the Go functions that it reaches, and the plain proof over lists. -/
import Derived.Test.YtkgngggppcmpfaaWFnArraysAreLayers0
import Derived.Test.YtkgngggppcmpfaaKFnArraysAreLayers0
import Derived.Test.YtkgngggppcmpfaaKFnArraysAreLayers1
import Derived.Test.YtkgngggppcmpfaaKFnArraysAreLayers2
import Derived.Test.YtkgngggppcmpfaaKFnArraysAreLayers3
section
namespace Go.Proofs.Ytkgngggppcmpfaa.L
open Go.RowKit Go.Proofs.YtkgngggppcmpfaaW.PrintWords Go.Proofs.YtkgngggppcmpfaaW.PrintLast Go.Proofs.YtkgngggppcmpfaaW.PrintMore
attribute [local go_sem] Qbd Qbf Qbn Qbo Q3 Q4 Qbe Qbg
set_option linter.unusedVariables false
set_option linter.unusedSimpArgs false
def Qb6.l0:Nat→Int→Int→List Int→Int→Int→Option (Int)
 |0,_,_,_,_,_=>none
 |k+1,x1,x5,x8,x9,x10=>if x10<x9 then (if 0≤x10 then (if x10<(x8.length:Int) then (if (rd x8 x10)≤x1 then (Qb6.l0 k x1 (Go.bits .or .i64 x5 (shl .i64 1 x10)) x8 x9 (wrap64 (x10+1))) else (Qb6.l0 k x1 x5 x8 x9 (wrap64 (x10+1)))) else (none)) else (none)) else (some x5)
def Qb6.f (k:Nat) (l0:List Int) (a1:Int):Option (Int):=Qb6.l0 k a1 0 l0 (l0.length:Int) 0
theorem Qb6.mono_l: ∀ k,(∀ y0 y1 y2 y3 y4,LeO (Qb6.l0 k y0 y1 y2 y3 y4) (Qb6.l0 (k+1) y0 y1 y2 y3 y4))
 |0=>fun _ _ _ _ _ r h=>by simp [Qb6.l0] at h
 |k+1=>by
  have ih0:=Qb6.mono_l k
  ·
   intro y0 y1 y2 y3 y4;unfold Qb6.l0
   repeat' first
   |(with_reducible exact ih0 _ _ _ _ _)
   |(with_reducible exact LeO.refl _)
   |(with_reducible exact LeO.none _)
   |(with_reducible refine LeO.ite ?_ ?_)
   |(with_reducible refine LeO.bind ?_ (fun _=> ?_))
   |exact ih0 _ _ _ _ _
   |exact LeO.none _
   |refine LeO.ite ?_ ?_
   |refine LeO.bind ?_ (fun _=> ?_)
theorem Qb6.mono: ∀ a0 a1 k,LeO (Qb6.f k a0 a1) (Qb6.f (k+1) a0 a1):=by
 intro a0 a1 k;have ih0:=Qb6.mono_l k;unfold Qb6.f
 repeat' (with_reducible first|apply ih0|exact LeO.refl _|exact LeO.none _|refine LeO.ite ?_ ?_|refine LeO.bind ?_ (fun _=> ?_))
set_option maxHeartbeats 8000000 in
set_option maxRecDepth 100000 in
theorem Qb6.calls (k:Nat) (A0:Option Addr) (c0:Nat) (l0:List Int) (a1:Int) (r:Int) (w:World) (hr0:Kd.C (Kd.int .i64) w A0 l0.length l0) (hc0:l0.length≤c0) (h:Qb6.f k l0 a1=some r):
 Calls Try.prog 97 #[.slice A0 l0.length c0, .int .i64 a1] w fun e w'=>e= .returned (.int .i64 r)∧Drawn0 w w':=by
 have HR0:=Zk hr0;have HC0:=Zk hc0;clear hr0 hc0;have H:(Qb6.l0 k a1 0 l0 (l0.length:Int) 0)=some r:=h;clear h;have H':=Zk H;clear H;go_enter Try.func97,Try.ntmps97;go_wp2
 go_loopg [5,10] k (fun kq v5 v10 w'=> ∃ (x5_1:Int) (x10_1:Int),v5= .int .i64 x5_1∧v10= .int .i64 x10_1∧Z0 (Qb6.l0 kq a1 x5_1 l0 (l0.length:Int) x10_1=some r)∧Z0 (kq≤k)∧Drawn0 w w')
 case atStart=>exact ⟨(0),(0),(by first|rfl|(simp;done)|(simp [*];done)),(by first|rfl|(simp;done)|(simp [*];done)),H',⟨Nat.le_refl _⟩,by repeat (first|exact Drawn0.refl _|apply Drawn0.step)⟩
 case round=>
  clear H'
  skip
  obtain ⟨x5_1,x10_1,rfl,rfl,HA,HK1,⟨m1,rfl⟩⟩:=hrel;cases gk with
  |zero=>exact absurd HA.out (by simp [Qb6.l0])
  |succ k1=>
   have H:=HA.out;clear HA;simp only [Qb6.l0] at H
   by_cases c3:x10_1<(l0.length:Int)
   ·
    rw [if_pos c3] at H;have c3b0:=decide_eq_true c3;clear c3
    by_cases c4:0≤x10_1
    ·
     rw [if_pos c4] at H;have c4b0:=decide_eq_true c4;clear c4
     by_cases c5:x10_1<(l0.length:Int)
     ·
      rw [if_pos c5] at H;have c5b0:=decide_eq_true c5;clear c5
      by_cases c6:(rd l0 x10_1)≤a1
      ·
       rw [if_pos c6] at H;have c6b0:=decide_eq_true c6;clear c6;have c7b0:=eq_true (of_decide_eq_true (by first|(with_reducible assumption)|assumption):0≤x10_1);obtain ⟨ji8,hji8⟩: ∃ j_:Int,(shl .i64 1 x10_1)=j_:=⟨_,rfl⟩
       replace H:(Qb6.l0 k1 a1 (Go.bits .or .i64 x5_1 (ji8)) l0 (l0.length:Int) (wrap64 (x10_1+1)))=some r:=by first|(rw [hji8] at H;exact H)|(simp only [hji8] at H ⊢;exact H)
       have hji8_:(IntKind.i64.wrap (1*2 ^ min x10_1.toNat 64))=ji8:=hji8;have hji8z:x10_1≤64→(IntKind.i64.wrap (1*2 ^ x10_1.toNat))=ji8:=Qeb hji8;have hji8u:(IntKind.i64.wrap (2 ^ min x10_1.toNat 64))=ji8:=by have h_:=hji8_;rw [Int.one_mul] at h_;exact h_
       have hji8v:x10_1≤64→(IntKind.i64.wrap (2 ^ x10_1.toNat))=ji8:=fun hle_=>by have h_:=hji8z hle_;rw [Int.one_mul] at h_;exact h_
       have hji8y:(wrap64 (1*2 ^ min x10_1.toNat 64))=ji8:=(Qci _).symm.trans hji8_;have hji8x:x10_1≤64→(wrap64 (1*2 ^ x10_1.toNat))=ji8:=fun h_=>(Qci _).symm.trans (hji8z h_)
       have H':=Zk H;clear H;have p430:0≤(x10_1:Int):=of_decide_eq_true (by first|(with_reducible assumption)|assumption);have q430:x10_1<(l0.length:Int):=of_decide_eq_true (by first|(with_reducible assumption)|assumption);obtain ⟨ad430,e430,hx430_0⟩:=Kd.at_int HR0.out x10_1 p430 q430;cases e430;replace p430:=eq_true p430;replace q430:=eq_true q430;go_wp2;go_roundg k1
       case measure=>have:=HK1.out;omega
       case rel=>exact ⟨(Go.bits .or .i64 x5_1 (ji8)),(wrap64 (x10_1+1)),(by first|rfl|(simp;done)|(simp only [←hji8] <;>(first|rfl|simp))|(simp [*];done)),(by first|rfl|(simp;done)|(simp [*];done)),H',⟨by have:=HK1.out;omega⟩,by repeat (first|exact Drawn0.refl _|apply Drawn0.step)⟩
      ·
       rw [if_neg c6] at H;have c6b0:=decide_eq_false c6;clear c6;have H':=Zk H;clear H;have p430:0≤(x10_1:Int):=of_decide_eq_true (by first|(with_reducible assumption)|assumption);have q430:x10_1<(l0.length:Int):=of_decide_eq_true (by first|(with_reducible assumption)|assumption);obtain ⟨ad430,e430,hx430_0⟩:=Kd.at_int HR0.out x10_1 p430 q430;cases e430;replace p430:=eq_true p430;replace q430:=eq_true q430;go_wp2;go_roundg k1
       case measure=>have:=HK1.out;omega
       case rel=>exact ⟨(x5_1),(wrap64 (x10_1+1)),(by first|rfl|(simp;done)|(simp [*];done)),(by first|rfl|(simp;done)|(simp [*];done)),H',⟨by have:=HK1.out;omega⟩,by repeat (first|exact Drawn0.refl _|apply Drawn0.step)⟩
     ·
      rw [if_neg c5] at H;exact absurd H (by simp)
    ·
     rw [if_neg c4] at H;exact absurd H (by simp)
   ·
    rw [if_neg c3] at H;have c3b0:=decide_eq_false c3;clear c3;obtain rfl:=Option.some.inj H;go_wp2
    go_ret
    exact ⟨by first|rfl|(simp;done)|(simp [*];done),by repeat (first|exact Drawn0.refl _|apply Drawn0.step)⟩
end Go.Proofs.Ytkgngggppcmpfaa.L
end
section
namespace Go.Proofs.Ytkgngggppcmpfaa.L
open Go.RowKit Go.Proofs.YtkgngggppcmpfaaW.PrintWords Go.Proofs.YtkgngggppcmpfaaW.PrintLast Go.Proofs.YtkgngggppcmpfaaW.PrintMore Go.Proofs.Ytkgngggppcmpfaa.X
attribute [local go_sem] Qbd Qbf Qbn Qbo Q3 Q4 Qbe Qbg
set_option linter.unusedVariables false
set_option linter.unusedSimpArgs false
def Qcb.l0:Nat→List Int→Int→List Int→Int→Option (List Int × Bool)
 |0,_,_,_,_=>none
 |k+1,x1,x2,x8,x9=>if x9<x2 then ((Qb6.f k x1 x9).bind fun t433=>(if x8.length<17592186044416 then (Qcb.l0 k x1 x2 (x8++ [t433]) (wrap64 (x9+1))) else (none))) else (some (x8,true))
def Qcb.f (k:Nat) (l0_0:List Int) (l1:List Int) (a2:Int):Option (List Int × Bool):=(Qc3.f k l0_0 l1 a2).bind fun t432=>(if t432=true then (Qcb.l0 k l1 a2 ([] :List Int) 0) else (some (([] :List Int),false)))
theorem Qcb.mono_l: ∀ k,(∀ y0 y1 y2 y3,LeO (Qcb.l0 k y0 y1 y2 y3) (Qcb.l0 (k+1) y0 y1 y2 y3))
 |0=>fun _ _ _ _ r h=>by simp [Qcb.l0] at h
 |k+1=>by
  have ih0:=Qcb.mono_l k
  ·
   intro y0 y1 y2 y3;unfold Qcb.l0
   repeat' first
   |(with_reducible exact ih0 _ _ _ _)
   |(with_reducible exact Qc3.mono _ _ _ _)
   |(with_reducible exact Qb6.mono _ _ _)
   |(with_reducible exact LeO.refl _)
   |(with_reducible exact LeO.none _)
   |(with_reducible refine LeO.ite ?_ ?_)
   |(with_reducible refine LeO.bind ?_ (fun _=> ?_))
   |exact ih0 _ _ _ _
   |exact Qc3.mono _ _ _ _
   |exact Qb6.mono _ _ _
   |exact LeO.none _
   |refine LeO.ite ?_ ?_
   |refine LeO.bind ?_ (fun _=> ?_)
theorem Qcb.mono: ∀ a0 a1 a2 k,LeO (Qcb.f k a0 a1 a2) (Qcb.f (k+1) a0 a1 a2):=by
 intro a0 a1 a2 k;have ih0:=Qcb.mono_l k;unfold Qcb.f
 repeat' (with_reducible first|apply ih0|apply Qc3.mono|apply Qb6.mono|exact LeO.refl _|exact LeO.none _|refine LeO.ite ?_ ?_|refine LeO.bind ?_ (fun _=> ?_))
set_option maxHeartbeats 8000000 in
set_option maxRecDepth 100000 in
theorem Qcb.calls (k:Nat) (A0_0:Option Addr) (c0_0:Nat) (l0_0:List Int) (A1:Option Addr) (c1:Nat) (l1:List Int) (a2:Int) (r1:List Int) (r2:Bool) (w:World) (hr0_0:Kd.C (Kd.int .i64) w A0_0 l0_0.length l0_0) (hc0_0:l0_0.length≤c0_0) (hr1:Kd.C (Kd.int .i64) w A1 l1.length l1) (hc1:l1.length≤c1) (h:Qcb.f k l0_0 l1 a2=some (r1,r2)):
 Calls Try.prog 38 #[.agg #[.slice A0_0 l0_0.length c0_0], .slice A1 l1.length c1, .int .i64 a2] w fun e w'=> ∃ v0_:Value,e= .returned (.tuple #[v0_, .bool r2])∧Kd.R (Kd.int .i64) 3 w' w.heap.size (fun _=>True) v0_ r1∧Below w.heap.size w w':=by
 have hu26:=Try.underlying26;have HR0_0:=Zk hr0_0;have HC0_0:=Zk hc0_0;clear hr0_0 hc0_0;have HR1:=Zk hr1;have HC1:=Zk hc1;clear hr1 hc1;have HB:=Zk (Below.refl w.heap.size w);have H:((Qc3.f k l0_0 l1 a2).bind fun t432=>(if t432=true then (Qcb.l0 k l1 a2 ([] :List Int) 0) else (some (([] :List Int),false))))=some (r1,r2):=h;clear h;obtain ⟨t432,A4,H⟩:=bs H;(try dsimp only at H)
 by_cases c5:t432=true
 ·
  subst c5;rw [if_pos rfl] at H;have H':=Zk H;clear H;go_enter Try.func38,Try.ntmps38;go_wp2_with (first|(refine bE (N:=3) (cs:= #[.slice A0_0 l0_0.length c0_0]) (t:=26) ?_;intro gb431 hg w6 hbox hb;have BK431:=Zk (hbox);have GW431:=Zk ((by rw [hg];exact (Qh (uB HB)):w.heap.size≤gb431));have GE431:=GW431;replace HB:=Zk (Qc (uB HB) hb);clear hb hbox hg;have hcz7_0:=bC BK431;have hfz7_0:=Qg BK431.out 0)|(refine gA (some 13) Try.func69 #[.agg #[.slice A0_0 l0_0.length c0_0], .slice A1 l1.length c1, .int .i64 a2] ?_;(with_reducible refine (Qc3.calls k _ _ l0_0 _ _ l1 a2 true _ (uD HR0_0 HB) HC0_0.out (uD HR1 HB) HC1.out A4.out).mono ?_);rintro e w8 ⟨rfl,hb⟩;refine ⟨_,rfl,?_⟩;replace BK431:=Zk (Qd (uK BK431) hb);replace HB:=Zk (Qc (vB HB) hb);(try clear hb)))
  go_loopg [8,9] k (fun kq v8 v9 w'=> ∃ (x8_1:List Int) (x9_1:Int),v9= .int .i64 x9_1∧Z0 (Qcb.l0 kq l1 a2 x8_1 x9_1=some (r1,r2))∧Z0 (kq≤k)∧Z0 (Kd.R (Kd.int .i64) 3 w' w.heap.size (fun _=>True) v8 x8_1)∧Z0 (w'.heap[gb431]? =some (.cells #[(.slice A0_0 l0_0.length c0_0)] 26 (0,0)))∧Z0 (Below w.heap.size w w'))
  case atStart=>exact ⟨(([] :List Int)),(0),(by first|rfl|(simp;done)|(simp [*];done)),H',⟨Nat.le_refl _⟩,⟨by first|exact Kd.R_nil _ _ _ _ _|exact Kd.N_nil _ _ _ _ _|exact Kd.V_nil _ _ _ _ _|exact Kd.Q_nil _ _ _ _ _|exact Kd.S_nil _ _ _ _ _⟩,⟨uK BK431⟩,⟨(vB HB)⟩⟩
  case round=>
   clear H'
   try clear hcz7_0 hfz7_0
   obtain ⟨x8_1,x9_1,rfl,HA,HK1,HO_8,BK431,HB⟩:=hrel;cases gk with
   |zero=>exact absurd HA.out (by simp [Qcb.l0])
   |succ k1=>
    have H:=HA.out;clear HA;simp only [Qcb.l0] at H
    by_cases c9:x9_1<a2
    ·
     rw [if_pos c9] at H;have c9b0:=decide_eq_true c9;clear c9;obtain ⟨t433,A10,H⟩:=bs H;(try dsimp only at H)
     by_cases c11:x8_1.length<17592186044416
     ·
      rw [if_pos c11] at H;have LMc11:=Zk c11;clear c11;obtain ⟨y434,hy434⟩: ∃ y_:List Int,y_=(x8_1++ [t433]):=⟨_,rfl⟩
      replace H:(Qcb.l0 k1 l1 a2 y434 (wrap64 (x9_1+1)))=some (r1,r2):=by first|(rw [hy434];with_reducible exact H)|(have H2_:=(Option.bind_some _ _).symm.trans H;rw [hy434];with_reducible exact H2_)|(have H2_:=(Option.bind_some _ _).symm.trans H;with_reducible exact H2_)|with_reducible exact H|(rw [hy434];exact H)|exact H
      have Ny434:=Zk hy434;clear hy434;have H':=Zk H;clear H;go_wp2_with (first|(refine gA (some 23) Try.func97 #[.slice A1 l1.length c1, .int .i64 x9_1] ?_;(with_reducible refine (Qb6.calls k1 _ _ l1 x9_1 t433 _ (uD HR1 HB) HC1.out A10.out).mono ?_);rintro e w' ⟨rfl,⟨nd,rfl⟩⟩;refine ⟨_,rfl,?_⟩)|((with_reducible refine Qcl (b:= .append) (xs:= #[.tmp 20, .tmp 24]) rfl ?_);at_builtin;refine Kd.R_append (Kd.int .i64) (w0:=w) w.heap.size rfl (.tmp 20) (.tmp 24) 24 3 (.int .i64 0) 8 rfl Try.underlying24 Qed rfl (by decide) (by omega) u8 x8_1 t433 [.int .i64 t433] (fun _=>True) (fun _=>False) rfl rfl ?aP (fun _ hk=>hk.elim) ?aF ?aO ?aB ?aS ?aL ?_;(case aP=>exact rfl);(case aB=>exact (vB HB));(case aF=>exact (fun _ _=>trivial));(case aO=>exact (uR HO_8));(case aS=>exact (Qh (vB HB)));(case aL=>have:=LMc11.out;omega);intro v435 w12 ho hb hg hat;rw [←Ny434.out] at ho;replace BK431:=Zk (Qb8 (uK BK431) hg (Kd.R_ne HO_8.out BK431.out (by decide)));replace HB:=Zk (hb);have HO436:=Zk (ho);clear HO_8;clear ho hb hg hat));go_roundg k1
      case measure=>have:=HK1.out;omega
      case rel=>exact ⟨(y434),(wrap64 (x9_1+1)),(by first|rfl|(simp;done)|(simp [*];done)),H',⟨by have:=HK1.out;omega⟩,⟨uR HO436⟩,⟨uK BK431⟩,⟨(vB HB)⟩⟩
     ·
      rw [if_neg c11] at H;exact absurd H (by simp)
    ·
     rw [if_neg c9] at H;have c9b0:=decide_eq_false c9;clear c9;simp only [Option.some.injEq,Prod.mk.injEq] at H;obtain ⟨rfl,rfl⟩:=H;go_wp2
     go_ret2
     exact ⟨_,by first|rfl|(simp [Qe,Qf] <;>rfl)|(simp [*,Qe,Qf] <;>rfl),uR HO_8,(vB HB)⟩
 ·
  replace c5:=Bool.eq_false_iff.mpr c5;subst c5;rw [if_neg (show ¬ (false=true) by decide)] at H;simp only [Option.some.injEq,Prod.mk.injEq] at H;obtain ⟨rfl,rfl⟩:=H;go_enter Try.func38,Try.ntmps38;go_wp2_with (first|(refine bE (N:=3) (cs:= #[.slice A0_0 l0_0.length c0_0]) (t:=26) ?_;intro gb431 hg w13 hbox hb;have BK431:=Zk (hbox);have GW431:=Zk ((by rw [hg];exact (Qh (uB HB)):w.heap.size≤gb431));have GE431:=GW431;replace HB:=Zk (Qc (uB HB) hb);clear hb hbox hg;have hcz14_0:=bC BK431;have hfz14_0:=Qg BK431.out 0)|(refine gA (some 13) Try.func69 #[.agg #[.slice A0_0 l0_0.length c0_0], .slice A1 l1.length c1, .int .i64 a2] ?_;(with_reducible refine (Qc3.calls k _ _ l0_0 _ _ l1 a2 false _ (uD HR0_0 HB) HC0_0.out (uD HR1 HB) HC1.out A4.out).mono ?_);rintro e w15 ⟨rfl,hb⟩;refine ⟨_,rfl,?_⟩;replace BK431:=Zk (Qd (uK BK431) hb);replace HB:=Zk (Qc (vB HB) hb);(try clear hb)))
  go_ret2
  exact ⟨_,by first|rfl|(simp [Qe,Qf] <;>rfl)|(simp [*,Qe,Qf] <;>rfl),by first|exact Kd.R_nil _ _ _ _ _|exact Kd.N_nil _ _ _ _ _|exact Kd.V_nil _ _ _ _ _|exact Kd.Q_nil _ _ _ _ _|exact Kd.S_nil _ _ _ _ _,(vB HB)⟩
def Qcu.f (k:Nat) (l0_0:List Int) (l1:List Int) (a2:Int):Option (Int × Bool):=(Qcv.f k l0_0 l1 a2).bind fun t438=>(if t438=true then ((Q7.f k l0_0 l1 1 1).bind fun t439=>(if 0<(t439.length:Int) then (some (rd t439 0,true)) else (none))) else (some (0,false)))
theorem Qcu.mono: ∀ a0 a1 a2 k,LeO (Qcu.f k a0 a1 a2) (Qcu.f (k+1) a0 a1 a2):=by
 intro a0 a1 a2 k;unfold Qcu.f
 repeat' (with_reducible first|apply Q7.mono|apply Qcv.mono|exact LeO.refl _|exact LeO.none _|refine LeO.ite ?_ ?_|refine LeO.bind ?_ (fun _=> ?_))
set_option maxHeartbeats 8000000 in
set_option maxRecDepth 100000 in
theorem Qcu.calls (k:Nat) (A0_0:Option Addr) (c0_0:Nat) (l0_0:List Int) (A1:Option Addr) (c1:Nat) (l1:List Int) (a2:Int) (r1:Int) (r2:Bool) (w:World) (hr0_0:Kd.C (Kd.int .i64) w A0_0 l0_0.length l0_0) (hc0_0:l0_0.length≤c0_0) (hr1:Kd.C (Kd.int .i64) w A1 l1.length l1) (hc1:l1.length≤c1) (h:Qcu.f k l0_0 l1 a2=some (r1,r2)):
 Calls Try.prog 39 #[.agg #[.slice A0_0 l0_0.length c0_0], .slice A1 l1.length c1, .int .i64 a2] w fun e w'=>e= .returned (.tuple #[.int .i64 r1, .bool r2])∧Below w.heap.size w w':=by
 have hu26:=Try.underlying26;have HR0_0:=Zk hr0_0;have HC0_0:=Zk hc0_0;clear hr0_0 hc0_0;have HR1:=Zk hr1;have HC1:=Zk hc1;clear hr1 hc1;have HB:=Zk (Below.refl w.heap.size w);have H:((Qcv.f k l0_0 l1 a2).bind fun t438=>(if t438=true then ((Q7.f k l0_0 l1 1 1).bind fun t439=>(if 0<(t439.length:Int) then (some (rd t439 0,true)) else (none))) else (some (0,false))))=some (r1,r2):=h;clear h;obtain ⟨t438,A4,H⟩:=bs H;(try dsimp only at H)
 by_cases c5:t438=true
 ·
  subst c5;rw [if_pos rfl] at H;obtain ⟨t439,A6,H⟩:=bs H;(try dsimp only at H)
  by_cases c7:0<(t439.length:Int)
  ·
   rw [if_pos c7] at H;have c7b0:=decide_eq_true c7;have c7b1:decide (0<t439.length)=true:=decide_eq_true (by omega);clear c7;simp only [Option.some.injEq,Prod.mk.injEq] at H;obtain ⟨rfl,rfl⟩:=H;go_enter Try.func39,Try.ntmps39;go_wp2_with (first|(refine bE (N:=3) (cs:= #[.slice A0_0 l0_0.length c0_0]) (t:=26) ?_;intro gb437 hg w8 hbox hb;have BK437:=Zk (hbox);have GW437:=Zk ((by rw [hg];exact (Qh (uB HB)):w.heap.size≤gb437));have GE437:=GW437;replace HB:=Zk (Qc (uB HB) hb);clear hb hbox hg;have hcz9_0:=bC BK437;have hfz9_0:=Qg BK437.out 0)|(refine gA (some 11) Try.func62 #[.agg #[.slice A0_0 l0_0.length c0_0], .slice A1 l1.length c1, .int .i64 a2] ?_;(with_reducible refine (Qcv.calls k _ _ l0_0 _ _ l1 a2 true _ (uD HR0_0 HB) HC0_0.out (uD HR1 HB) HC1.out A4.out).mono ?_);rintro e w10 ⟨rfl,hb⟩;refine ⟨_,rfl,?_⟩;replace BK437:=Zk (Qd (uK BK437) hb);replace HB:=Zk (Qc (vB HB) hb);(try clear hb);have hcz11_0:=bC BK437;have hfz11_0:=Qg BK437.out 0)|(refine gA (some 15) Try.func96 #[.agg #[.slice A0_0 l0_0.length c0_0], .slice A1 l1.length c1, .int .i64 1, .int .i64 1] ?_;(with_reducible refine (Q7.calls k _ _ l0_0 _ _ l1 1 1 t439 _ (uD HR0_0 HB) HC0_0.out (uD HR1 HB) HC1.out A6.out).mono ?_);rintro e w12 ⟨v440,rfl,ho0,hb⟩;refine ⟨_,rfl,?_⟩;have HO441:=Zk (Kd.R_lower ho0 (Qh (vB HB)));replace BK437:=Zk (Qd (uK BK437) hb);replace HB:=Zk (Qc (vB HB) hb);(try clear hb ho0);obtain ⟨Ao13,co13,eo13⟩:=Kd.R_slice HO441.out;subst eo13;have p442:0≤(0:Int):=(by omega);have q442:0<(t439.length:Int):=of_decide_eq_true (by first|(with_reducible assumption)|assumption);obtain ⟨ad442,e442,hx442_0⟩:=Kd.at_int (Kd.R_reads' HO441.out).2.2 0 p442 q442;cases e442;have qi442:(0<t439.length)=True:=eq_true (by omega);(try rw [show ((0:Int)).toNat=0 from rfl] at hx442_0);(try rw [Addr.add_zero'] at hx442_0);replace p442:=eq_true p442;replace q442:=eq_true q442))
   go_ret2
   exact ⟨by first|rfl|(simp [Qe,Qf] <;>rfl)|(simp [*,Qe,Qf] <;>rfl),(vB HB)⟩
  ·
   rw [if_neg c7] at H;exact absurd H (by simp)
 ·
  replace c5:=Bool.eq_false_iff.mpr c5;subst c5;rw [if_neg (show ¬ (false=true) by decide)] at H;simp only [Option.some.injEq,Prod.mk.injEq] at H;obtain ⟨rfl,rfl⟩:=H;go_enter Try.func39,Try.ntmps39;go_wp2_with (first|(refine bE (N:=3) (cs:= #[.slice A0_0 l0_0.length c0_0]) (t:=26) ?_;intro gb437 hg w14 hbox hb;have BK437:=Zk (hbox);have GW437:=Zk ((by rw [hg];exact (Qh (uB HB)):w.heap.size≤gb437));have GE437:=GW437;replace HB:=Zk (Qc (uB HB) hb);clear hb hbox hg;have hcz15_0:=bC BK437;have hfz15_0:=Qg BK437.out 0)|(refine gA (some 11) Try.func62 #[.agg #[.slice A0_0 l0_0.length c0_0], .slice A1 l1.length c1, .int .i64 a2] ?_;(with_reducible refine (Qcv.calls k _ _ l0_0 _ _ l1 a2 false _ (uD HR0_0 HB) HC0_0.out (uD HR1 HB) HC1.out A4.out).mono ?_);rintro e w16 ⟨rfl,hb⟩;refine ⟨_,rfl,?_⟩;replace BK437:=Zk (Qd (uK BK437) hb);replace HB:=Zk (Qc (vB HB) hb);(try clear hb)))
  go_ret2
  exact ⟨by first|rfl|(simp [Qe,Qf] <;>rfl)|(simp [*,Qe,Qf] <;>rfl),(vB HB)⟩
def Qc6.f (k:Nat) (l0_0:List Int) (l1:List Int) (a2:Int):Option (Int × Bool):=(Qc3.f k l0_0 l1 a2).bind fun t444=>(if t444=true then ((Qb6.f k l1 0).bind fun t445=>(some (t445,true))) else (some (0,false)))
theorem Qc6.mono: ∀ a0 a1 a2 k,LeO (Qc6.f k a0 a1 a2) (Qc6.f (k+1) a0 a1 a2):=by
 intro a0 a1 a2 k;unfold Qc6.f
 repeat' (with_reducible first|apply Qc3.mono|apply Qb6.mono|exact LeO.refl _|exact LeO.none _|refine LeO.ite ?_ ?_|refine LeO.bind ?_ (fun _=> ?_))
set_option maxHeartbeats 8000000 in
set_option maxRecDepth 100000 in
theorem Qc6.calls (k:Nat) (A0_0:Option Addr) (c0_0:Nat) (l0_0:List Int) (A1:Option Addr) (c1:Nat) (l1:List Int) (a2:Int) (r1:Int) (r2:Bool) (w:World) (hr0_0:Kd.C (Kd.int .i64) w A0_0 l0_0.length l0_0) (hc0_0:l0_0.length≤c0_0) (hr1:Kd.C (Kd.int .i64) w A1 l1.length l1) (hc1:l1.length≤c1) (h:Qc6.f k l0_0 l1 a2=some (r1,r2)):
 Calls Try.prog 40 #[.agg #[.slice A0_0 l0_0.length c0_0], .slice A1 l1.length c1, .int .i64 a2] w fun e w'=>e= .returned (.tuple #[.int .i64 r1, .bool r2])∧Below w.heap.size w w':=by
 have hu26:=Try.underlying26;have HR0_0:=Zk hr0_0;have HC0_0:=Zk hc0_0;clear hr0_0 hc0_0;have HR1:=Zk hr1;have HC1:=Zk hc1;clear hr1 hc1;have HB:=Zk (Below.refl w.heap.size w);have H:((Qc3.f k l0_0 l1 a2).bind fun t444=>(if t444=true then ((Qb6.f k l1 0).bind fun t445=>(some (t445,true))) else (some (0,false))))=some (r1,r2):=h;clear h;obtain ⟨t444,A4,H⟩:=bs H;(try dsimp only at H)
 by_cases c5:t444=true
 ·
  subst c5;rw [if_pos rfl] at H;obtain ⟨t445,A6,H⟩:=bs H;(try dsimp only at H)
  simp only [Option.some.injEq,Prod.mk.injEq] at H;obtain ⟨rfl,rfl⟩:=H;go_enter Try.func40,Try.ntmps40;go_wp2_with (first|(refine bE (N:=3) (cs:= #[.slice A0_0 l0_0.length c0_0]) (t:=26) ?_;intro gb443 hg w7 hbox hb;have BK443:=Zk (hbox);have GW443:=Zk ((by rw [hg];exact (Qh (uB HB)):w.heap.size≤gb443));have GE443:=GW443;replace HB:=Zk (Qc (uB HB) hb);clear hb hbox hg;have hcz8_0:=bC BK443;have hfz8_0:=Qg BK443.out 0)|(refine gA (some 11) Try.func69 #[.agg #[.slice A0_0 l0_0.length c0_0], .slice A1 l1.length c1, .int .i64 a2] ?_;(with_reducible refine (Qc3.calls k _ _ l0_0 _ _ l1 a2 true _ (uD HR0_0 HB) HC0_0.out (uD HR1 HB) HC1.out A4.out).mono ?_);rintro e w9 ⟨rfl,hb⟩;refine ⟨_,rfl,?_⟩;replace BK443:=Zk (Qd (uK BK443) hb);replace HB:=Zk (Qc (vB HB) hb);(try clear hb))|(refine gA (some 14) Try.func97 #[.slice A1 l1.length c1, .int .i64 0] ?_;(with_reducible refine (Qb6.calls k _ _ l1 0 t445 _ (uD HR1 HB) HC1.out A6.out).mono ?_);rintro e w' ⟨rfl,⟨nd,rfl⟩⟩;refine ⟨_,rfl,?_⟩))
  go_ret2
  exact ⟨by first|rfl|(simp [Qe,Qf] <;>rfl)|(simp [*,Qe,Qf] <;>rfl),(vB HB)⟩
 ·
  replace c5:=Bool.eq_false_iff.mpr c5;subst c5;rw [if_neg (show ¬ (false=true) by decide)] at H;simp only [Option.some.injEq,Prod.mk.injEq] at H;obtain ⟨rfl,rfl⟩:=H;go_enter Try.func40,Try.ntmps40;go_wp2_with (first|(refine bE (N:=3) (cs:= #[.slice A0_0 l0_0.length c0_0]) (t:=26) ?_;intro gb443 hg w10 hbox hb;have BK443:=Zk (hbox);have GW443:=Zk ((by rw [hg];exact (Qh (uB HB)):w.heap.size≤gb443));have GE443:=GW443;replace HB:=Zk (Qc (uB HB) hb);clear hb hbox hg;have hcz11_0:=bC BK443;have hfz11_0:=Qg BK443.out 0)|(refine gA (some 11) Try.func69 #[.agg #[.slice A0_0 l0_0.length c0_0], .slice A1 l1.length c1, .int .i64 a2] ?_;(with_reducible refine (Qc3.calls k _ _ l0_0 _ _ l1 a2 false _ (uD HR0_0 HB) HC0_0.out (uD HR1 HB) HC1.out A4.out).mono ?_);rintro e w12 ⟨rfl,hb⟩;refine ⟨_,rfl,?_⟩;replace BK443:=Zk (Qd (uK BK443) hb);replace HB:=Zk (Qc (vB HB) hb);(try clear hb)))
  go_ret2
  exact ⟨by first|rfl|(simp [Qe,Qf] <;>rfl)|(simp [*,Qe,Qf] <;>rfl),(vB HB)⟩
def Qc0.f (l0_0:List Int):Option (Int):=(Qb1.f l0_0).bind fun t447=>(if 0≤t447 then (some (wrap64 ((shl .i64 1 t447) - 1))) else (none))
set_option maxHeartbeats 8000000 in
set_option maxRecDepth 100000 in
theorem Qc0.calls (A0_0:Option Addr) (c0_0:Nat) (l0_0:List Int) (r:Int) (w:World) (hr0_0:Kd.C (Kd.int .i64) w A0_0 l0_0.length l0_0) (hc0_0:l0_0.length≤c0_0) (h:Qc0.f l0_0=some r):
 Calls Try.prog 123 #[.agg #[.slice A0_0 l0_0.length c0_0]] w fun e w'=>e= .returned (.int .i64 r)∧Below w.heap.size w w':=by
 have hu26:=Try.underlying26;have HR0_0:=Zk hr0_0;have HC0_0:=Zk hc0_0;clear hr0_0 hc0_0;have HB:=Zk (Below.refl w.heap.size w);have H:((Qb1.f l0_0).bind fun t447=>(if 0≤t447 then (some (wrap64 ((shl .i64 1 t447) - 1))) else (none)))=some r:=h;clear h;obtain ⟨t447,A2,H⟩:=bs H;(try dsimp only at H)
 by_cases c3:0≤t447
 ·
  rw [if_pos c3] at H;have c3b0:=eq_true c3;have c3b1:=decide_eq_true c3;clear c3;obtain ⟨ji4,hji4⟩: ∃ j_:Int,(shl .i64 1 t447)=j_:=⟨_,rfl⟩
  replace H:(some (wrap64 ((ji4) - 1)))=some r:=by first|(rw [hji4] at H;exact H)|(simp only [hji4] at H ⊢;exact H)
  (try rw [hji4] at A2)
  have hji4_:(IntKind.i64.wrap (1*2 ^ min t447.toNat 64))=ji4:=hji4;have hji4z:t447≤64→(IntKind.i64.wrap (1*2 ^ t447.toNat))=ji4:=Qeb hji4;have hji4u:(IntKind.i64.wrap (2 ^ min t447.toNat 64))=ji4:=by have h_:=hji4_;rw [Int.one_mul] at h_;exact h_
  have hji4v:t447≤64→(IntKind.i64.wrap (2 ^ t447.toNat))=ji4:=fun hle_=>by have h_:=hji4z hle_;rw [Int.one_mul] at h_;exact h_
  have hji4y:(wrap64 (1*2 ^ min t447.toNat 64))=ji4:=(Qci _).symm.trans hji4_;have hji4x:t447≤64→(wrap64 (1*2 ^ t447.toNat))=ji4:=fun h_=>(Qci _).symm.trans (hji4z h_)
  obtain rfl:=Option.some.inj H;go_enter Try.func123,Try.ntmps123;go_wp2_with (first|(refine bE (N:=1) (cs:= #[.slice A0_0 l0_0.length c0_0]) (t:=26) ?_;intro gb446 hg w5 hbox hb;have BK446:=Zk (hbox);have GW446:=Zk ((by rw [hg];exact (Qh (uB HB)):w.heap.size≤gb446));have GE446:=GW446;replace HB:=Zk (Qc (uB HB) hb);clear hb hbox hg;have hcz6_0:=bC BK446;have hfz6_0:=Qg BK446.out 0)|(refine gA (some 4) Try.func65 #[.agg #[.slice A0_0 l0_0.length c0_0]] ?_;(with_reducible refine (Qb1.calls _ _ l0_0 t447 _ (uD HR0_0 HB) HC0_0.out A2.out).mono ?_);rintro e w7 ⟨rfl,hb⟩;refine ⟨_,rfl,?_⟩;replace BK446:=Zk (Qd (uK BK446) hb);replace HB:=Zk (Qc (vB HB) hb);(try clear hb)))
  go_ret
  exact ⟨by first|rfl|(simp [Qe,Qf] <;>rfl)|(simp only [←hji4];first|rfl|(simp [Qe,Qf] <;>rfl))|(simp [*,Qe,Qf] <;>rfl),(vB HB)⟩
 ·
  rw [if_neg c3] at H;exact absurd H (by simp)
def Qdm.f (k:Nat) (l0_0:List Int) (a1:Int):Option (Bool):=(Q6.f k l0_0).bind fun t449=>(if t449=true then ((Qc0.f l0_0).bind fun t450=>((Qcd.f a1 0 t450).bind fun t451=>(some t451))) else (some false))
theorem Qdm.mono: ∀ a0 a1 k,LeO (Qdm.f k a0 a1) (Qdm.f (k+1) a0 a1):=by
 intro a0 a1 k;unfold Qdm.f
 repeat' (with_reducible first|apply Q6.mono|exact LeO.refl _|exact LeO.none _|refine LeO.ite ?_ ?_|refine LeO.bind ?_ (fun _=> ?_))
set_option maxHeartbeats 8000000 in
set_option maxRecDepth 100000 in
theorem Qdm.calls (k:Nat) (A0_0:Option Addr) (c0_0:Nat) (l0_0:List Int) (a1:Int) (r:Bool) (w:World) (hr0_0:Kd.C (Kd.int .i64) w A0_0 l0_0.length l0_0) (hc0_0:l0_0.length≤c0_0) (h:Qdm.f k l0_0 a1=some r):
 Calls Try.prog 124 #[.agg #[.slice A0_0 l0_0.length c0_0], .int .i64 a1] w fun e w'=>e= .returned (.bool r)∧Below w.heap.size w w':=by
 have hu26:=Try.underlying26;have HR0_0:=Zk hr0_0;have HC0_0:=Zk hc0_0;clear hr0_0 hc0_0;have HB:=Zk (Below.refl w.heap.size w);have H:((Q6.f k l0_0).bind fun t449=>(if t449=true then ((Qc0.f l0_0).bind fun t450=>((Qcd.f a1 0 t450).bind fun t451=>(some t451))) else (some false)))=some r:=h;clear h;obtain ⟨t449,A3,H⟩:=bs H;(try dsimp only at H)
 by_cases c4:t449=true
 ·
  subst c4;rw [if_pos rfl] at H;obtain ⟨t450,A5,H⟩:=bs H;(try dsimp only at H)
  obtain ⟨t451,A6,H⟩:=bs H;(try dsimp only at H)
  obtain rfl:=Option.some.inj H;go_enter Try.func124,Try.ntmps124;go_wp2_with (first|(refine bE (N:=2) (cs:= #[.slice A0_0 l0_0.length c0_0]) (t:=26) ?_;intro gb448 hg w7 hbox hb;have BK448:=Zk (hbox);have GW448:=Zk ((by rw [hg];exact (Qh (uB HB)):w.heap.size≤gb448));have GE448:=GW448;replace HB:=Zk (Qc (uB HB) hb);clear hb hbox hg;have hcz8_0:=bC BK448;have hfz8_0:=Qg BK448.out 0)|(refine gA (some 6) Try.func75 #[.agg #[.slice A0_0 l0_0.length c0_0]] ?_;(with_reducible refine (Q6.calls k _ _ l0_0 true _ (uD HR0_0 HB) HC0_0.out A3.out).mono ?_);rintro e w9 ⟨rfl,hb⟩;refine ⟨_,rfl,?_⟩;replace BK448:=Zk (Qd (uK BK448) hb);replace HB:=Zk (Qc (vB HB) hb);(try clear hb);have hcz10_0:=bC BK448;have hfz10_0:=Qg BK448.out 0)|(go_at_call 123;(with_reducible refine (Qc0.calls _ _ l0_0 t450 _ (uD HR0_0 HB) HC0_0.out A5.out).mono ?_);rintro e w11 ⟨rfl,hb⟩;replace BK448:=Zk (Qd (uK BK448) hb);replace HB:=Zk (Qc (vB HB) hb);(try clear hb))|(go_at_call 81;(with_reducible refine (Qcd.calls a1 0 t450 t451 _ A6.out).mono ?_);rintro e w' ⟨rfl,⟨nd,rfl⟩⟩))
  go_ret
  exact ⟨by first|rfl|(simp [Qe,Qf] <;>rfl)|(simp [*,Qe,Qf] <;>rfl),(vB HB)⟩
 ·
  replace c4:=Bool.eq_false_iff.mpr c4;subst c4;rw [if_neg (show ¬ (false=true) by decide)] at H;obtain rfl:=Option.some.inj H;go_enter Try.func124,Try.ntmps124;go_wp2_with (first|(refine bE (N:=2) (cs:= #[.slice A0_0 l0_0.length c0_0]) (t:=26) ?_;intro gb448 hg w12 hbox hb;have BK448:=Zk (hbox);have GW448:=Zk ((by rw [hg];exact (Qh (uB HB)):w.heap.size≤gb448));have GE448:=GW448;replace HB:=Zk (Qc (uB HB) hb);clear hb hbox hg;have hcz13_0:=bC BK448;have hfz13_0:=Qg BK448.out 0)|(refine gA (some 6) Try.func75 #[.agg #[.slice A0_0 l0_0.length c0_0]] ?_;(with_reducible refine (Q6.calls k _ _ l0_0 false _ (uD HR0_0 HB) HC0_0.out A3.out).mono ?_);rintro e w14 ⟨rfl,hb⟩;refine ⟨_,rfl,?_⟩;replace BK448:=Zk (Qd (uK BK448) hb);replace HB:=Zk (Qc (vB HB) hb);(try clear hb)))
  go_ret
  exact ⟨by first|rfl|(simp [Qe,Qf] <;>rfl)|(simp [*,Qe,Qf] <;>rfl),(vB HB)⟩
def Q9.l0:Nat→Int→List Int→Int→Int→List Int→Option (Int)
 |0,_,_,_,_,_=>none
 |k+1,x5,x10,x11,x12,x453000=>if x12<x11 then (if 0≤x12 then (if x12<(x10.length:Int) then (if 0≤(rd x10 x12) then (if (rd x10 x12)<(x453000.length:Int) then (Q9.l0 k (Go.bits .or .i64 x5 (rd x453000 (rd x10 x12))) x10 x11 (wrap64 (x12+1)) x453000) else (none)) else (none)) else (none)) else (none)) else (some x5)
def Q9.f (k:Nat) (l0_0:List Int) (a1:Int):Option (Int):=(Qbr.f k a1).bind fun t453=>(Q9.l0 k a1 t453 (t453.length:Int) 0 l0_0)
theorem Q9.mono_l: ∀ k,(∀ y0 y1 y2 y3 y4,LeO (Q9.l0 k y0 y1 y2 y3 y4) (Q9.l0 (k+1) y0 y1 y2 y3 y4))
 |0=>fun _ _ _ _ _ r h=>by simp [Q9.l0] at h
 |k+1=>by
  have ih0:=Q9.mono_l k
  ·
   intro y0 y1 y2 y3 y4;unfold Q9.l0
   repeat' first
   |(with_reducible exact ih0 _ _ _ _ _)
   |(with_reducible exact Qbr.mono _ _)
   |(with_reducible exact LeO.refl _)
   |(with_reducible exact LeO.none _)
   |(with_reducible refine LeO.ite ?_ ?_)
   |(with_reducible refine LeO.bind ?_ (fun _=> ?_))
   |exact ih0 _ _ _ _ _
   |exact Qbr.mono _ _
   |exact LeO.none _
   |refine LeO.ite ?_ ?_
   |refine LeO.bind ?_ (fun _=> ?_)
theorem Q9.mono: ∀ a0 a1 k,LeO (Q9.f k a0 a1) (Q9.f (k+1) a0 a1):=by
 intro a0 a1 k;have ih0:=Q9.mono_l k;unfold Q9.f
 repeat' (with_reducible first|apply ih0|apply Qbr.mono|exact LeO.refl _|exact LeO.none _|refine LeO.ite ?_ ?_|refine LeO.bind ?_ (fun _=> ?_))
set_option maxHeartbeats 8000000 in
set_option maxRecDepth 100000 in
theorem Q9.calls (k:Nat) (A0_0:Option Addr) (c0_0:Nat) (l0_0:List Int) (a1:Int) (r:Int) (w:World) (hr0_0:Kd.C (Kd.int .i64) w A0_0 l0_0.length l0_0) (hc0_0:l0_0.length≤c0_0) (h:Q9.f k l0_0 a1=some r):
 Calls Try.prog 125 #[.agg #[.slice A0_0 l0_0.length c0_0], .int .i64 a1] w fun e w'=>e= .returned (.int .i64 r)∧Below w.heap.size w w':=by
 have hu26:=Try.underlying26;have HR0_0:=Zk hr0_0;have HC0_0:=Zk hc0_0;clear hr0_0 hc0_0;have HB:=Zk (Below.refl w.heap.size w);have H:((Qbr.f k a1).bind fun t453=>(Q9.l0 k a1 t453 (t453.length:Int) 0 l0_0))=some r:=h;clear h;obtain ⟨t453,A3,H⟩:=bs H;(try dsimp only at H)
 have H':=Zk H;clear H;go_enter Try.func125,Try.ntmps125;go_wp2_with (first|(refine bE (N:=2) (cs:= #[.slice A0_0 l0_0.length c0_0]) (t:=26) ?_;intro gb452 hg w4 hbox hb;have BK452:=Zk (hbox);have GW452:=Zk ((by rw [hg];exact (Qh (uB HB)):w.heap.size≤gb452));have GE452:=GW452;replace HB:=Zk (Qc (uB HB) hb);clear hb hbox hg)|(refine gA (some 10) Try.func116 #[.int .i64 a1] ?_;(with_reducible refine (Qbr.calls k a1 t453 _ A3.out).mono ?_);rintro e w5 ⟨v454,rfl,ho0,hb⟩;refine ⟨_,rfl,?_⟩;have HO455:=Zk (Kd.R_lower ho0 (Qh (vB HB)));replace BK452:=Zk (Qd (uK BK452) hb);replace HB:=Zk (Qc (vB HB) hb);(try clear hb ho0);obtain ⟨Ao6,co6,eo6⟩:=Kd.R_slice HO455.out;subst eo6))
 go_loopg [5,12] k (fun kq v5 v12 w'=> ∃ (x5_1:Int) (x12_1:Int),v5= .int .i64 x5_1∧v12= .int .i64 x12_1∧Z0 (Q9.l0 kq x5_1 t453 (t453.length:Int) x12_1 l0_0=some r)∧Z0 (kq≤k)∧Z0 (Kd.R (Kd.int .i64) 3 w' w.heap.size (fun _=>True) (.slice Ao6 t453.length co6) t453)∧Z0 (w'.heap[gb452]? =some (.cells #[(.slice A0_0 l0_0.length c0_0)] 26 (0,0)))∧Z0 (Below w.heap.size w w'))
 case atStart=>exact ⟨(a1),(0),(by first|rfl|(simp;done)|(simp [*];done)),(by first|rfl|(simp;done)|(simp [*];done)),H',⟨Nat.le_refl _⟩,⟨uR HO455⟩,⟨uK BK452⟩,⟨(vB HB)⟩⟩
 case round=>
  clear H'
  skip
  obtain ⟨x5_1,x12_1,rfl,rfl,HA,HK1,HO_10,BK452,HB⟩:=hrel;cases gk with
  |zero=>exact absurd HA.out (by simp [Q9.l0])
  |succ k1=>
   have H:=HA.out;clear HA;simp only [Q9.l0] at H
   by_cases c7:x12_1<(t453.length:Int)
   ·
    rw [if_pos c7] at H;have c7b0:=decide_eq_true c7;clear c7
    by_cases c8:0≤x12_1
    ·
     rw [if_pos c8] at H;have c8b0:=decide_eq_true c8;clear c8
     by_cases c9:x12_1<(t453.length:Int)
     ·
      rw [if_pos c9] at H;have c9b0:=decide_eq_true c9;clear c9
      by_cases c10:0≤(rd t453 x12_1)
      ·
       rw [if_pos c10] at H;have c10b0:=decide_eq_true c10;clear c10
       by_cases c11:(rd t453 x12_1)<(l0_0.length:Int)
       ·
        rw [if_pos c11] at H;have c11b0:=decide_eq_true c11;clear c11;have H':=Zk H;clear H;have p456:0≤(x12_1:Int):=of_decide_eq_true (by first|(with_reducible assumption)|assumption);have q456:x12_1<(t453.length:Int):=of_decide_eq_true (by first|(with_reducible assumption)|assumption);obtain ⟨ad456,e456,hx456_0⟩:=Kd.at_int (Kd.R_reads' HO_10.out).2.2 x12_1 p456 q456;cases e456;replace p456:=eq_true p456;replace q456:=eq_true q456;have hcz12_0:=bC BK452;have hfz12_0:=Qg BK452.out 0;have p457:0≤((rd t453 x12_1):Int):=of_decide_eq_true (by first|(with_reducible assumption)|assumption);have q457:(rd t453 x12_1)<(l0_0.length:Int):=of_decide_eq_true (by first|(with_reducible assumption)|assumption);obtain ⟨ad457,e457,hx457_0⟩:=Kd.at_int HR0_0.out (rd t453 x12_1) p457 q457;cases e457;replace hx457_0:=(HB.out.cell (World.block_lt_of_cell? w _ hx457_0)).trans hx457_0;replace p457:=eq_true p457;replace q457:=eq_true q457;go_wp2;go_roundg k1
        case measure=>have:=HK1.out;omega
        case rel=>exact ⟨(Go.bits .or .i64 x5_1 (rd l0_0 (rd t453 x12_1))),(wrap64 (x12_1+1)),(by first|rfl|(simp;done)|(simp [*];done)),(by first|rfl|(simp;done)|(simp [*];done)),H',⟨by have:=HK1.out;omega⟩,⟨uR HO_10⟩,⟨uK BK452⟩,⟨(vB HB)⟩⟩
       ·
        rw [if_neg c11] at H;exact absurd H (by simp)
      ·
       rw [if_neg c10] at H;exact absurd H (by simp)
     ·
      rw [if_neg c9] at H;exact absurd H (by simp)
    ·
     rw [if_neg c8] at H;exact absurd H (by simp)
   ·
    rw [if_neg c7] at H;have c7b0:=decide_eq_false c7;clear c7;obtain rfl:=Option.some.inj H;go_wp2
    go_ret
    exact ⟨by first|rfl|(simp [Qe,Qf] <;>rfl)|(simp [*,Qe,Qf] <;>rfl),(vB HB)⟩
def Qcr.f (k:Nat) (l0_0:List Int) (a1:Int):Option (Bool):=(Qdm.f k l0_0 a1).bind fun t459=>(if t459=true then ((Q9.f k l0_0 a1).bind fun t460=>(some (t460==a1))) else (some false))
theorem Qcr.mono: ∀ a0 a1 k,LeO (Qcr.f k a0 a1) (Qcr.f (k+1) a0 a1):=by
 intro a0 a1 k;unfold Qcr.f
 repeat' (with_reducible first|apply Q9.mono|apply Qdm.mono|exact LeO.refl _|exact LeO.none _|refine LeO.ite ?_ ?_|refine LeO.bind ?_ (fun _=> ?_))
set_option maxHeartbeats 8000000 in
set_option maxRecDepth 100000 in
theorem Qcr.calls (k:Nat) (A0_0:Option Addr) (c0_0:Nat) (l0_0:List Int) (a1:Int) (r:Bool) (w:World) (hr0_0:Kd.C (Kd.int .i64) w A0_0 l0_0.length l0_0) (hc0_0:l0_0.length≤c0_0) (h:Qcr.f k l0_0 a1=some r):
 Calls Try.prog 103 #[.agg #[.slice A0_0 l0_0.length c0_0], .int .i64 a1] w fun e w'=>e= .returned (.bool r)∧Below w.heap.size w w':=by
 have hu26:=Try.underlying26;have HR0_0:=Zk hr0_0;have HC0_0:=Zk hc0_0;clear hr0_0 hc0_0;have HB:=Zk (Below.refl w.heap.size w);have H:((Qdm.f k l0_0 a1).bind fun t459=>(if t459=true then ((Q9.f k l0_0 a1).bind fun t460=>(some (t460==a1))) else (some false)))=some r:=h;clear h;obtain ⟨t459,A3,H⟩:=bs H;(try dsimp only at H)
 by_cases c4:t459=true
 ·
  subst c4;rw [if_pos rfl] at H;obtain ⟨t460,A5,H⟩:=bs H;(try dsimp only at H)
  obtain rfl:=Option.some.inj H;go_enter Try.func103,Try.ntmps103;go_wp2_with (first|(refine bE (N:=2) (cs:= #[.slice A0_0 l0_0.length c0_0]) (t:=26) ?_;intro gb458 hg w6 hbox hb;have BK458:=Zk (hbox);have GW458:=Zk ((by rw [hg];exact (Qh (uB HB)):w.heap.size≤gb458));have GE458:=GW458;replace HB:=Zk (Qc (uB HB) hb);clear hb hbox hg;have hcz7_0:=bC BK458;have hfz7_0:=Qg BK458.out 0)|(refine gA (some 7) Try.func124 #[.agg #[.slice A0_0 l0_0.length c0_0], .int .i64 a1] ?_;(with_reducible refine (Qdm.calls k _ _ l0_0 a1 true _ (uD HR0_0 HB) HC0_0.out A3.out).mono ?_);rintro e w8 ⟨rfl,hb⟩;refine ⟨_,rfl,?_⟩;replace BK458:=Zk (Qd (uK BK458) hb);replace HB:=Zk (Qc (vB HB) hb);(try clear hb);have hcz9_0:=bC BK458;have hfz9_0:=Qg BK458.out 0)|(go_at_call 125;(with_reducible refine (Q9.calls k _ _ l0_0 a1 t460 _ (uD HR0_0 HB) HC0_0.out A5.out).mono ?_);rintro e w10 ⟨rfl,hb⟩;replace BK458:=Zk (Qd (uK BK458) hb);replace HB:=Zk (Qc (vB HB) hb);(try clear hb)))
  go_ret
  exact ⟨by first|rfl|(simp [Qe,Qf] <;>rfl)|(simp [*,Qe,Qf] <;>rfl),(vB HB)⟩
 ·
  replace c4:=Bool.eq_false_iff.mpr c4;subst c4;rw [if_neg (show ¬ (false=true) by decide)] at H;obtain rfl:=Option.some.inj H;go_enter Try.func103,Try.ntmps103;go_wp2_with (first|(refine bE (N:=2) (cs:= #[.slice A0_0 l0_0.length c0_0]) (t:=26) ?_;intro gb458 hg w11 hbox hb;have BK458:=Zk (hbox);have GW458:=Zk ((by rw [hg];exact (Qh (uB HB)):w.heap.size≤gb458));have GE458:=GW458;replace HB:=Zk (Qc (uB HB) hb);clear hb hbox hg;have hcz12_0:=bC BK458;have hfz12_0:=Qg BK458.out 0)|(refine gA (some 7) Try.func124 #[.agg #[.slice A0_0 l0_0.length c0_0], .int .i64 a1] ?_;(with_reducible refine (Qdm.calls k _ _ l0_0 a1 false _ (uD HR0_0 HB) HC0_0.out A3.out).mono ?_);rintro e w13 ⟨rfl,hb⟩;refine ⟨_,rfl,?_⟩;replace BK458:=Zk (Qd (uK BK458) hb);replace HB:=Zk (Qc (vB HB) hb);(try clear hb)))
  go_ret
  exact ⟨by first|rfl|(simp [Qe,Qf] <;>rfl)|(simp [*,Qe,Qf] <;>rfl),(vB HB)⟩
mutual
def Qz.j0:Nat→List Int→Bool→List Int→Option (List Int × Bool)
 |0,_,_,_=>none
 |k+1,x1,x21,x462000=>if x21=true then (some (([] :List Int),false)) else ((Qb1.f x462000).bind fun t463=>(if 0≤t463 then (if (t463:Int).toNat≤35184372088832 then (Qz.l0 k x1 (List.replicate (t463:Int).toNat 0) x1 (x1.length:Int) 0 x462000) else (none)) else (none)))
def Qz.l0:Nat→List Int→List Int→List Int→Int→Int→List Int→Option (List Int × Bool)
 |0,_,_,_,_,_,_=>none
 |k+1,x1,x8,x25,x26,x27,x462000=>if x27<x26 then (if 0≤x27 then (if x27<(x25.length:Int) then ((Qcr.f k x462000 (rd x25 x27)).bind fun t468=>(if t468=true then (if x27>0 then (if 0≤(wrap64 (x27 - 1)) then (if (wrap64 (x27 - 1))<(x1.length:Int) then (Qz.j2 k x1 x8 (rd x25 x27) x25 x26 x27 ((Go.bits .andNot .i64 (rd x1 (wrap64 (x27 - 1))) (rd x25 x27)) !=0) x462000) else (none)) else (none)) else (Qz.j2 k x1 x8 (rd x25 x27) x25 x26 x27 false x462000)) else (Qz.j2 k x1 x8 (rd x25 x27) x25 x26 x27 true x462000))) else (none)) else (none)) else (some (x8,true))
def Qz.j2:Nat→List Int→List Int→Int→List Int→Int→Int→Bool→List Int→Option (List Int × Bool)
 |0,_,_,_,_,_,_,_,_=>none
 |k+1,x1,x8,x10,x25,x26,x27,x49,x462000=>if x49=true then (some (([] :List Int),false)) else ((Qc0.f x462000).bind fun t470=>((Qbr.f k (Go.bits .andNot .i64 t470 x10)).bind fun t471=>(Qz.l1 k x1 x8 x25 x26 x27 t471 (t471.length:Int) 0 x462000)))
def Qz.l1:Nat→List Int→List Int→List Int→Int→Int→List Int→Int→Int→List Int→Option (List Int × Bool)
 |0,_,_,_,_,_,_,_,_,_=>none
 |k+1,x1,x8,x25,x26,x27,x54,x55,x56,x462000=>if x56<x55 then (if 0≤x56 then (if x56<(x54.length:Int) then (if 0≤(rd x54 x56) then (if (rd x54 x56)<(x8.length:Int) then (Qz.l1 k x1 (x8.set ((rd x54 x56):Int).toNat (wrap64 ((rd x8 (rd x54 x56))+1))) x25 x26 x27 x54 x55 (wrap64 (x56+1)) x462000) else (none)) else (none)) else (none)) else (none)) else (Qz.l0 k x1 x8 x25 x26 (wrap64 (x27+1)) x462000)
end
def Qz.f (k:Nat) (l0_0:List Int) (l1:List Int) (a2:Int):Option (List Int × Bool):=(Q6.f k l0_0).bind fun t462=>(if t462=true then (Qz.j0 k l1 (decide ((l1.length:Int)>a2)) l0_0) else (Qz.j0 k l1 true l0_0))
theorem Qz.mono_l: ∀ k,(∀ y0 y1 y2,LeO (Qz.j0 k y0 y1 y2) (Qz.j0 (k+1) y0 y1 y2))∧(∀ y0 y1 y2 y3 y4 y5,LeO (Qz.l0 k y0 y1 y2 y3 y4 y5) (Qz.l0 (k+1) y0 y1 y2 y3 y4 y5))∧(∀ y0 y1 y2 y3 y4 y5 y6 y7,LeO (Qz.j2 k y0 y1 y2 y3 y4 y5 y6 y7) (Qz.j2 (k+1) y0 y1 y2 y3 y4 y5 y6 y7))∧(∀ y0 y1 y2 y3 y4 y5 y6 y7 y8,LeO (Qz.l1 k y0 y1 y2 y3 y4 y5 y6 y7 y8) (Qz.l1 (k+1) y0 y1 y2 y3 y4 y5 y6 y7 y8))
 |0=>⟨fun _ _ _ r h=>by simp [Qz.j0] at h,fun _ _ _ _ _ _ r h=>by simp [Qz.l0] at h,fun _ _ _ _ _ _ _ _ r h=>by simp [Qz.j2] at h,fun _ _ _ _ _ _ _ _ _ r h=>by simp [Qz.l1] at h⟩
 |k+1=>by
  obtain ⟨ih0,ih1,ih2,ih3⟩:=Qz.mono_l k;refine ⟨?_,?_,?_,?_⟩
  all_goals
   intros
   first|unfold Qz.j0|unfold Qz.l0|unfold Qz.j2|unfold Qz.l1
   repeat' (with_reducible first|apply ih0|apply ih1|apply ih2|apply ih3|apply Q6.mono|apply Qcr.mono|apply Qbr.mono|exact LeO.refl _|exact LeO.none _|refine LeO.ite ?_ ?_|refine LeO.bind ?_ (fun _=> ?_))
theorem Qz.mono: ∀ a0 a1 a2 k,LeO (Qz.f k a0 a1 a2) (Qz.f (k+1) a0 a1 a2):=by
 intro a0 a1 a2 k;obtain ⟨ih0,ih1,ih2,ih3⟩:=Qz.mono_l k;unfold Qz.f
 repeat' (with_reducible first|apply ih0|apply ih1|apply ih2|apply ih3|apply Q6.mono|apply Qcr.mono|apply Qbr.mono|exact LeO.refl _|exact LeO.none _|refine LeO.ite ?_ ?_|refine LeO.bind ?_ (fun _=> ?_))
set_option maxHeartbeats 8000000 in
set_option maxRecDepth 100000 in
theorem Qz.calls (k:Nat) (A0_0:Option Addr) (c0_0:Nat) (l0_0:List Int) (A1:Option Addr) (c1:Nat) (l1:List Int) (a2:Int) (r1:List Int) (r2:Bool) (w:World) (hr0_0:Kd.C (Kd.int .i64) w A0_0 l0_0.length l0_0) (hc0_0:l0_0.length≤c0_0) (hr1:Kd.C (Kd.int .i64) w A1 l1.length l1) (hc1:l1.length≤c1) (h:Qz.f k l0_0 l1 a2=some (r1,r2)):
 Calls Try.prog 98 #[.agg #[.slice A0_0 l0_0.length c0_0], .slice A1 l1.length c1, .int .i64 a2] w fun e w'=> ∃ v0_:Value,e= .returned (.tuple #[v0_, .bool r2])∧Kd.R (Kd.int .i64) 3 w' w.heap.size (fun _=>True) v0_ r1∧Below w.heap.size w w':=by
 have hu26:=Try.underlying26;have HR0_0:=Zk hr0_0;have HC0_0:=Zk hc0_0;clear hr0_0 hc0_0;have HR1:=Zk hr1;have HC1:=Zk hc1;clear hr1 hc1;have HB:=Zk (Below.refl w.heap.size w);have H:((Q6.f k l0_0).bind fun t462=>(if t462=true then (Qz.j0 k l1 (decide ((l1.length:Int)>a2)) l0_0) else (Qz.j0 k l1 true l0_0)))=some (r1,r2):=h;clear h;have HC4:=Zk H;clear H;go_enter Try.func98,Try.ntmps98;go_upto_region 1 with (first|((with_reducible refine Qb2 (N:=3) rfl ?_);(try (refine Qcx (by rfl) ?_;dsimp only));refine bE (N:=3) (cs:= #[.slice A0_0 l0_0.length c0_0]) (t:=26) ?_;intro gb461 hg w5 hbox hb;have BK461:=Zk (hbox);have GW461:=Zk ((by rw [hg];exact (Qh (uB HB)):w.heap.size≤gb461));have GE461:=GW461;replace HB:=Zk (Qc (uB HB) hb);clear hb hbox hg))
 (try simp only [Act.put,List.setIfInBounds_toArray,List.set_cons_zero,List.set_cons_succ])
 go_cut [21] (fun v21 wc=> ∃ (kq:Nat) (x21_3:Bool),v21= .bool x21_3∧Z0 (Qz.j0 kq l1 x21_3 l0_0=some (r1,r2))∧Z0 (kq≤k)∧Z0 (wc.heap[gb461]? =some (.cells #[(.slice A0_0 l0_0.length c0_0)] 26 (0,0)))∧Z0 (Below w.heap.size w wc))
 case first=>
  have H:=HC4.out;clear HC4;obtain ⟨t462,A6,H⟩:=bs H;(try dsimp only at H)
  by_cases c7:t462=true
  ·
   subst c7;rw [if_pos rfl] at H;have H':=Zk H;clear H;have hcz8_0:=bC BK461;have hfz8_0:=Qg BK461.out 0;go_wp2_with (first|(refine gA (some 14) Try.func75 #[.agg #[.slice A0_0 l0_0.length c0_0]] ?_;(with_reducible refine (Q6.calls k _ _ l0_0 true _ (uD HR0_0 HB) HC0_0.out A6.out).mono ?_);rintro e w9 ⟨rfl,hb⟩;refine ⟨_,rfl,?_⟩;replace BK461:=Zk (Qd (uK BK461) hb);replace HB:=Zk (Qc (vB HB) hb);(try clear hb)))
   go_meet
   case rel=>exact ⟨_,(decide ((l1.length:Int)>a2)),(by first|rfl|(simp;done)|(simp [*];done)),H',⟨by first|omega|exact Nat.le_refl _⟩,⟨uK BK461⟩,⟨(vB HB)⟩⟩
  ·
   replace c7:=Bool.eq_false_iff.mpr c7;subst c7;rw [if_neg (show ¬ (false=true) by decide)] at H;have H':=Zk H;clear H;have hcz10_0:=bC BK461;have hfz10_0:=Qg BK461.out 0;go_wp2_with (first|(refine gA (some 14) Try.func75 #[.agg #[.slice A0_0 l0_0.length c0_0]] ?_;(with_reducible refine (Q6.calls k _ _ l0_0 false _ (uD HR0_0 HB) HC0_0.out A6.out).mono ?_);rintro e w11 ⟨rfl,hb⟩;refine ⟨_,rfl,?_⟩;replace BK461:=Zk (Qd (uK BK461) hb);replace HB:=Zk (Qc (vB HB) hb);(try clear hb)))
   go_meet
   case rel=>exact ⟨_,(true),(by first|rfl|(simp;done)|(simp [*];done)),H',⟨by first|omega|exact Nat.le_refl _⟩,⟨uK BK461⟩,⟨(vB HB)⟩⟩
 case rest=>
  clear HC4
  skip
  obtain ⟨kq,x21_3,rfl,HA,HJ3,BK461,HB⟩:=hcut;cases kq with
  |zero=>exact absurd HA.out (by simp [Qz.j0])
  |succ kj3=>
   have H:=HA.out;clear HA;simp only [Qz.j0] at H
   by_cases c12:x21_3=true
   ·
    subst c12;rw [if_pos rfl] at H;simp only [Option.some.injEq,Prod.mk.injEq] at H;obtain ⟨rfl,rfl⟩:=H;go_wp2
    go_ret2
    exact ⟨_,by first|rfl|(simp [Qe,Qf] <;>rfl)|(simp [*,Qe,Qf] <;>rfl),by first|exact Kd.R_nil _ _ _ _ _|exact Kd.N_nil _ _ _ _ _|exact Kd.V_nil _ _ _ _ _|exact Kd.Q_nil _ _ _ _ _|exact Kd.S_nil _ _ _ _ _,(vB HB)⟩
   ·
    replace c12:=Bool.eq_false_iff.mpr c12;subst c12;rw [if_neg (show ¬ (false=true) by decide)] at H;obtain ⟨t463,A13,H⟩:=bs H;(try dsimp only at H)
    by_cases c14:0≤t463
    ·
     rw [if_pos c14] at H;have c14b0:=eq_true c14;have c14b1:=decide_eq_true c14;clear c14
     by_cases c15:(t463:Int).toNat≤35184372088832
     ·
      rw [if_pos c15] at H;have c15b0:=eq_true c15;have c15b1:=decide_eq_true c15;clear c15;obtain ⟨y464,hy464⟩: ∃ y_:List Int,y_=(List.replicate (t463:Int).toNat 0):=⟨_,rfl⟩
      replace H:(Qz.l0 kj3 l1 y464 l1 (l1.length:Int) 0 l0_0)=some (r1,r2):=by first|(rw [hy464];with_reducible exact H)|(have H2_:=(Option.bind_some _ _).symm.trans H;rw [hy464];with_reducible exact H2_)|(have H2_:=(Option.bind_some _ _).symm.trans H;with_reducible exact H2_)|with_reducible exact H|(rw [hy464];exact H)|exact H
      have Ny464:=Zk hy464;clear hy464;have H':=Zk H;clear H;have hcz16_0:=bC BK461;have hfz16_0:=Qg BK461.out 0;go_wp2_with (first|(refine gA (some 23) Try.func65 #[.agg #[.slice A0_0 l0_0.length c0_0]] ?_;(with_reducible refine (Qb1.calls _ _ l0_0 t463 _ (uD HR0_0 HB) HC0_0.out A13.out).mono ?_);rintro e w17 ⟨rfl,hb⟩;refine ⟨_,rfl,?_⟩;replace BK461:=Zk (Qd (uK BK461) hb);replace HB:=Zk (Qc (vB HB) hb);(try clear hb))|((with_reducible refine Qb2 (N:=24) rfl ?_);(try (refine Qcx (by rfl) ?_;dsimp only));refine Kd.R_make (Kd.int .i64) _ 3 rfl (N:=24) rfl 24 _ _ rfl t463 rfl rfl Try.underlying24 (.int .i64 0) 8 Qed rfl (by decide) (by omega) 0 (ok:=fun _=>True) (okp:=fun _=>True) rfl (fun _ hk=>hk) trivial (of_decide_eq_true (by first|(with_reducible assumption)|assumption)) (Nat.le_trans (Nat.mul_le_mul_right _ (of_decide_eq_true (by first|(with_reducible assumption)|assumption):t463.toNat≤35184372088832)) (by omega)) (Below.refl _ _) (Nat.le_refl _) ?_;intro v465 w18 ho19 hb hg_ hnew_;clear hg_ hnew_;(first|rw [←Ny464.out] at ho19|(simp only [Int.reduceToNat] at ho19;rw [←Ny464.out] at ho19));have HO466:=Zk (Kd.R_lower ho19 (Qh (vB HB)));replace BK461:=Zk (Qd (uK BK461) hb);replace HB:=Zk (Qc (vB HB) hb);clear hb ho19))
      go_loopg [27] kj3 (fun kq v27 w'=> ∃ (x8_2:List Int) (x27_2:Int),v27= .int .i64 x27_2∧Z0 (Qz.l0 kq l1 x8_2 l1 (l1.length:Int) x27_2 l0_0=some (r1,r2))∧Z0 (kq≤kj3)∧Z0 (Kd.R (Kd.int .i64) 3 w' w.heap.size (fun _=>True) v465 x8_2)∧Z0 (w'.heap[gb461]? =some (.cells #[(.slice A0_0 l0_0.length c0_0)] 26 (0,0)))∧Z0 (Below w.heap.size w w'))
      case atStart=>exact ⟨(y464),(0),(by first|rfl|(simp;done)|(simp [*];done)),H',⟨Nat.le_refl _⟩,⟨uR HO466⟩,⟨uK BK461⟩,⟨(vB HB)⟩⟩
      case round=>
       clear H'
       try clear c14b0 c14b1 c15b0 c15b1 hcz16_0 hfz16_0
       obtain ⟨x8_2,x27_2,rfl,HA,HK2,HO_8,BK461,HB⟩:=hrel;cases gk with
       |zero=>exact absurd HA.out (by simp [Qz.l0])
       |succ k2=>
        have H:=HA.out;clear HA;simp only [Qz.l0] at H
        by_cases c20:x27_2<(l1.length:Int)
        ·
         rw [if_pos c20] at H;have c20b0:=decide_eq_true c20;clear c20
         by_cases c21:0≤x27_2
         ·
          rw [if_pos c21] at H;have c21b0:=decide_eq_true c21;clear c21
          by_cases c22:x27_2<(l1.length:Int)
          ·
           rw [if_pos c22] at H;have c22b0:=decide_eq_true c22;clear c22;have HC23:=Zk H;clear H;have p467:0≤(x27_2:Int):=of_decide_eq_true (by first|(with_reducible assumption)|assumption);have q467:x27_2<(l1.length:Int):=of_decide_eq_true (by first|(with_reducible assumption)|assumption);obtain ⟨ad467,e467,hx467_0⟩:=Kd.at_int HR1.out x27_2 p467 q467;cases e467;replace hx467_0:=(HB.out.cell (World.block_lt_of_cell? w _ hx467_0)).trans hx467_0;replace p467:=eq_true p467;replace q467:=eq_true q467;go_upto_region 7 with (fail)
           go_cut [49] (fun v49 wc=> ∃ (kq:Nat) (x49_22:Bool),v49= .bool x49_22∧Z0 (Qz.j2 kq l1 x8_2 (rd l1 x27_2) l1 (l1.length:Int) x27_2 x49_22 l0_0=some (r1,r2))∧Z0 (kq≤k2)∧Z0 (Kd.R (Kd.int .i64) 3 wc w.heap.size (fun _=>True) v465 x8_2)∧Z0 (wc.heap[gb461]? =some (.cells #[(.slice A0_0 l0_0.length c0_0)] 26 (0,0)))∧Z0 (Below w.heap.size w wc))
           case first=>
            have H:=HC23.out;clear HC23;obtain ⟨t468,A24,H⟩:=bs H;(try dsimp only at H)
            by_cases c25:t468=true
            ·
             subst c25;rw [if_pos rfl] at H
             by_cases c26:x27_2>0
             ·
              rw [if_pos c26] at H;have c26b0:=decide_eq_true c26;clear c26
              (first|rw [c26b0] |(simp only [Qci,Qdb];rw [c26b0])|skip)
              obtain ⟨ji27,hji27⟩: ∃ j_:Int,(wrap64 (x27_2 - 1))=j_:=⟨_,rfl⟩
              replace H:(if 0≤(ji27) then (if (ji27)<(l1.length:Int) then (Qz.j2 k2 l1 x8_2 (rd l1 x27_2) l1 (l1.length:Int) x27_2 ((Go.bits .andNot .i64 (rd l1 (ji27)) (rd l1 x27_2)) !=0) l0_0) else (none)) else (none))=some (r1,r2):=by first|(rw [hji27] at H;exact H)|(simp only [hji27] at H ⊢;exact H)
              (try rw [hji27] at A24)
              have hji27w:(IntKind.i64.wrap (x27_2 - 1))=ji27:=(Qci _).trans hji27
              by_cases c28:0≤(ji27)
              ·
               rw [if_pos c28] at H;have c28b0:=decide_eq_true c28;clear c28
               by_cases c29:(ji27)<(l1.length:Int)
               ·
                rw [if_pos c29] at H;have c29b0:=decide_eq_true c29;clear c29;have H':=Zk H;clear H;have hcz30_0:=bC BK461;have hfz30_0:=Qg BK461.out 0;go_wp2_with (first|(refine gA (some 34) Try.func103 #[.agg #[.slice A0_0 l0_0.length c0_0], .int .i64 (rd l1 x27_2)] ?_;(with_reducible refine (Qcr.calls k2 _ _ l0_0 (rd l1 x27_2) true _ (uD HR0_0 HB) HC0_0.out A24.out).mono ?_);rintro e w31 ⟨rfl,hb⟩;refine ⟨_,rfl,?_⟩;replace HO_8:=Zk (Kd.R_below (uR HO_8) hb);replace BK461:=Zk (Qd (uK BK461) hb);replace HB:=Zk (Qc (vB HB) hb);(try clear hb);have p469:0≤((ji27):Int):=of_decide_eq_true (by first|(with_reducible assumption)|assumption);have q469:(ji27)<(l1.length:Int):=of_decide_eq_true (by first|(with_reducible assumption)|assumption);obtain ⟨ad469,e469,hx469_0⟩:=Kd.at_int HR1.out (ji27) p469 q469;obtain rfl:ad467=ad469:=(by injection e469);replace hx469_0:=(HB.out.cell (World.block_lt_of_cell? w _ hx469_0)).trans hx469_0;replace p469:=eq_true p469;replace q469:=eq_true q469))
                go_meet
                case rel=>exact ⟨_,(((Go.bits .andNot .i64 (rd l1 (ji27)) (rd l1 x27_2)) !=0)),(by first|rfl|(simp;done)|(simp only [←hji27] <;>(first|rfl|simp))|(simp [*];done)),H',⟨by have:=HJ3.out;have:=HK2.out;first|omega|exact Nat.le_refl _⟩,⟨uR HO_8⟩,⟨uK BK461⟩,⟨(vB HB)⟩⟩
               ·
                rw [if_neg c29] at H;exact absurd H (by simp)
              ·
               rw [if_neg c28] at H;exact absurd H (by simp)
             ·
              rw [if_neg c26] at H;have c26b0:=decide_eq_false c26;clear c26
              (first|rw [c26b0] |(simp only [Qci,Qdb];rw [c26b0])|skip)
              have H':=Zk H;clear H;have hcz32_0:=bC BK461;have hfz32_0:=Qg BK461.out 0;go_wp2_with (first|(refine gA (some 34) Try.func103 #[.agg #[.slice A0_0 l0_0.length c0_0], .int .i64 (rd l1 x27_2)] ?_;(with_reducible refine (Qcr.calls k2 _ _ l0_0 (rd l1 x27_2) true _ (uD HR0_0 HB) HC0_0.out A24.out).mono ?_);rintro e w33 ⟨rfl,hb⟩;refine ⟨_,rfl,?_⟩;replace HO_8:=Zk (Kd.R_below (uR HO_8) hb);replace BK461:=Zk (Qd (uK BK461) hb);replace HB:=Zk (Qc (vB HB) hb);(try clear hb)))
              go_meet
              case rel=>exact ⟨_,(false),(by first|rfl|(simp;done)|(simp [*];done)),H',⟨by have:=HJ3.out;have:=HK2.out;first|omega|exact Nat.le_refl _⟩,⟨uR HO_8⟩,⟨uK BK461⟩,⟨(vB HB)⟩⟩
            ·
             replace c25:=Bool.eq_false_iff.mpr c25;subst c25;rw [if_neg (show ¬ (false=true) by decide)] at H;have H':=Zk H;clear H;have hcz34_0:=bC BK461;have hfz34_0:=Qg BK461.out 0;go_wp2_with (first|(refine gA (some 34) Try.func103 #[.agg #[.slice A0_0 l0_0.length c0_0], .int .i64 (rd l1 x27_2)] ?_;(with_reducible refine (Qcr.calls k2 _ _ l0_0 (rd l1 x27_2) false _ (uD HR0_0 HB) HC0_0.out A24.out).mono ?_);rintro e w35 ⟨rfl,hb⟩;refine ⟨_,rfl,?_⟩;replace HO_8:=Zk (Kd.R_below (uR HO_8) hb);replace BK461:=Zk (Qd (uK BK461) hb);replace HB:=Zk (Qc (vB HB) hb);(try clear hb)))
             go_meet
             case rel=>exact ⟨_,(true),(by first|rfl|(simp;done)|(simp [*];done)),H',⟨by have:=HJ3.out;have:=HK2.out;first|omega|exact Nat.le_refl _⟩,⟨uR HO_8⟩,⟨uK BK461⟩,⟨(vB HB)⟩⟩
           case rest=>
            clear HC23
            try clear c20b0 c21b0 c22b0 hx467_0 p467 q467
            obtain ⟨kq,x49_22,rfl,HA,HJ22,HO_8,BK461,HB⟩:=hcut;cases kq with
            |zero=>exact absurd HA.out (by simp [Qz.j2])
            |succ kj22=>
             have H:=HA.out;clear HA;simp only [Qz.j2] at H
             by_cases c36:x49_22=true
             ·
              subst c36;rw [if_pos rfl] at H;simp only [Option.some.injEq,Prod.mk.injEq] at H;obtain ⟨rfl,rfl⟩:=H;go_wp2
              go_ret2
              exact ⟨_,by first|rfl|(simp [Qe,Qf] <;>rfl)|(simp [*,Qe,Qf] <;>rfl),by first|exact Kd.R_nil _ _ _ _ _|exact Kd.N_nil _ _ _ _ _|exact Kd.V_nil _ _ _ _ _|exact Kd.Q_nil _ _ _ _ _|exact Kd.S_nil _ _ _ _ _,(vB HB)⟩
             ·
              replace c36:=Bool.eq_false_iff.mpr c36;subst c36;rw [if_neg (show ¬ (false=true) by decide)] at H;obtain ⟨t470,A37,H⟩:=bs H;(try dsimp only at H)
              obtain ⟨t471,A38,H⟩:=bs H;(try dsimp only at H)
              have H':=Zk H;clear H;have hcz39_0:=bC BK461;have hfz39_0:=Qg BK461.out 0;go_wp2_with (first|(refine gA (some 51) Try.func123 #[.agg #[.slice A0_0 l0_0.length c0_0]] ?_;(with_reducible refine (Qc0.calls _ _ l0_0 t470 _ (uD HR0_0 HB) HC0_0.out A37.out).mono ?_);rintro e w40 ⟨rfl,hb⟩;refine ⟨_,rfl,?_⟩;replace HO_8:=Zk (Kd.R_below (uR HO_8) hb);replace BK461:=Zk (Qd (uK BK461) hb);replace HB:=Zk (Qc (vB HB) hb);(try clear hb))|(refine gA (some 54) Try.func116 #[.int .i64 (Go.bits .andNot .i64 t470 (rd l1 x27_2))] ?_;(with_reducible refine (Qbr.calls kj22 (Go.bits .andNot .i64 t470 (rd l1 x27_2)) t471 _ A38.out).mono ?_);rintro e w41 ⟨v472,rfl,ho0,hb⟩;refine ⟨_,rfl,?_⟩;have HO473:=Zk (Kd.R_lower (Kd.R_new' ho0 (Kd.R_lt (uR HO_8))) (Qh (vB HB)));replace HO_8:=Zk (Kd.R_elder' (uR HO_8) (Kd.R_base ho0) hb);replace BK461:=Zk (Qd (uK BK461) hb);replace HB:=Zk (Qc (vB HB) hb);(try clear hb ho0);obtain ⟨Ao42,co42,eo42⟩:=Kd.R_slice HO473.out;subst eo42))
              go_loopg [56] kj22 (fun kq v56 w'=> ∃ (x8_4:List Int) (x56_4:Int),v56= .int .i64 x56_4∧Z0 (Qz.l1 kq l1 x8_4 l1 (l1.length:Int) x27_2 t471 (t471.length:Int) x56_4 l0_0=some (r1,r2))∧Z0 (kq≤kj22)∧Z0 (Kd.R (Kd.int .i64) 3 w' w.heap.size (fun k_=>some k_≠((.slice Ao42 t471.length co42):Value).ownBlock) v465 x8_4)∧Z0 (Kd.R (Kd.int .i64) 3 w' w.heap.size (fun k_=>some k_≠(v465:Value).ownBlock) (.slice Ao42 t471.length co42) t471)∧Z0 (w'.heap[gb461]? =some (.cells #[(.slice A0_0 l0_0.length c0_0)] 26 (0,0)))∧Z0 (Below w.heap.size w w'))
              case atStart=>exact ⟨(x8_2),(0),(by first|rfl|(simp;done)|(simp [*];done)),H',⟨Nat.le_refl _⟩,⟨Kd.R_mono (uR HO_8) (fun _ hk=>hk.2)⟩,⟨Kd.R_mono (uR HO473) (fun _ hk=>hk.2)⟩,⟨uK BK461⟩,⟨(vB HB)⟩⟩
              case round=>
               clear H'
               try clear hcz39_0 hfz39_0
               obtain ⟨x8_4,x56_4,rfl,HA,HK4,HO_8,HO_54,BK461,HB⟩:=hrel;cases gk with
               |zero=>exact absurd HA.out (by simp [Qz.l1])
               |succ k4=>
                have H:=HA.out;clear HA;simp only [Qz.l1] at H
                by_cases c43:x56_4<(t471.length:Int)
                ·
                 rw [if_pos c43] at H;have c43b0:=decide_eq_true c43;clear c43
                 by_cases c44:0≤x56_4
                 ·
                  rw [if_pos c44] at H;have c44b0:=decide_eq_true c44;clear c44
                  by_cases c45:x56_4<(t471.length:Int)
                  ·
                   rw [if_pos c45] at H;have c45b0:=decide_eq_true c45;clear c45
                   by_cases c46:0≤(rd t471 x56_4)
                   ·
                    rw [if_pos c46] at H;have c46b0:=decide_eq_true c46;clear c46
                    by_cases c47:(rd t471 x56_4)<(x8_4.length:Int)
                    ·
                     rw [if_pos c47] at H;have c47b0:=decide_eq_true c47;clear c47;obtain ⟨y476,hy476⟩: ∃ y_:List Int,y_=(x8_4.set ((rd t471 x56_4):Int).toNat (wrap64 ((rd x8_4 (rd t471 x56_4))+1))):=⟨_,rfl⟩
                     replace H:(Qz.l1 k4 l1 y476 l1 (l1.length:Int) x27_2 t471 (t471.length:Int) (wrap64 (x56_4+1)) l0_0)=some (r1,r2):=by first|(rw [hy476];with_reducible exact H)|(have H2_:=(Option.bind_some _ _).symm.trans H;rw [hy476];with_reducible exact H2_)|(have H2_:=(Option.bind_some _ _).symm.trans H;with_reducible exact H2_)|with_reducible exact H|(rw [hy476];exact H)|exact H
                     have Ny476:=Zk hy476;clear hy476;have H':=Zk H;clear H;have p474:0≤(x56_4:Int):=of_decide_eq_true (by first|(with_reducible assumption)|assumption);have q474:x56_4<(t471.length:Int):=of_decide_eq_true (by first|(with_reducible assumption)|assumption);obtain ⟨ad474,e474,hx474_0⟩:=Kd.at_int (Kd.R_reads' HO_54.out).2.2 x56_4 p474 q474;cases e474;replace p474:=eq_true p474;replace q474:=eq_true q474;obtain ⟨Ao49,co49,eo49⟩:=Kd.R_slice HO_8.out;subst eo49;have p475:0≤((rd t471 x56_4):Int):=of_decide_eq_true (by first|(with_reducible assumption)|assumption);have q475:(rd t471 x56_4)<(x8_4.length:Int):=of_decide_eq_true (by first|(with_reducible assumption)|assumption);obtain ⟨ad475,e475,hx475_0⟩:=Kd.at_int (Kd.R_reads' HO_8.out).2.2 (rd t471 x56_4) p475 q475;cases e475;replace p475:=eq_true p475;replace q475:=eq_true q475;have p48:0≤((rd t471 x56_4):Int):=of_decide_eq_true (by first|(with_reducible assumption)|assumption);have q48:((rd t471 x56_4):Int)<((x8_4.length:Int):Int):=of_decide_eq_true (by first|(with_reducible assumption)|assumption);obtain ⟨go48,co48,eo48,gb48,gl48,cl48,HG48⟩:=Kd.R_form HO_8.out (by omega)
                     (first|cases eo48|(injection eo48 with ea_ en_ ec_;(first|subst ea_|(injection ea_ with ea_;subst ea_));subst ec_;clear en_))
                     have GB48:=Zk gb48;have GG48:=Zk HG48;clear gb48 gl48 HG48
                     (first|simp only [Qeu] at hx475_0|skip)
                     obtain ⟨hx48_0,hf48_0⟩:=Kd.R_celln 0 HO_8.out ((rd t471 x56_4):Int) p48 q48;replace p48:=eq_true p48;replace q48:=eq_true q48;have HP50:=Kd.R_putg HO_8.out ((rd t471 x56_4):Int) (wrap64 ((rd x8_4 (rd t471 x56_4))+1));go_wp2_with (first|((with_reducible refine Qf9 (t:=3) (p:=65) rfl ?_);refine Qfv (t:=3) (p:=65) (v:= ?vo_w51) (w1:=(wr.setCell ⟨go48,((rd t471 x56_4):Int).toNat,none⟩ (.int .i64 (wrap64 ((rd x8_4 (rd t471 x56_4))+1))))) ?hg ?ho ?hn ?hr ?_;(case ho=>rfl);(case hg=>rfl);(case hn=>rfl);(case hr=>first|(go_simp;done)|(go_simp;rfl));intro w51 hw;have hg:wr.grownBy w51 (some go48):=(by rw [hw];exact HP50.2);have hp_:Kd.R (Kd.int .i64) 3 w51 w.heap.size (fun k_=>some k_≠(.slice (some ad474) t471.length co42:Value).ownBlock) (.slice (some ⟨go48,0,none⟩) x8_4.length co49) y476:=(by rw [hw,Ny476.out];exact HP50.1);clear HP50;replace HO_54:=Zk (Kd.R_after (v:=(.slice (some ⟨go48,0,none⟩) x8_4.length co49)) (v1:=(.slice (some ⟨go48,0,none⟩) x8_4.length co49)) (ok:=(fun _=>True)) (Kd.R_mono (uR HO_54) (fun _ hk=>⟨trivial,hk⟩)) hg (.inl rfl));replace BK461:=Zk (Qb8 (uK BK461) hg (Kd.R_ne HO_8.out BK461.out (by decide)));replace HO_8:=Zk (hp_);replace HB:=Zk ((by rw [hw];exact Q1 (HB.out) GB48.out:Below w.heap.size w w51));clear hg hw hp_));go_roundg k4
                     case measure=>have:=HJ3.out;have:=HK2.out;have:=HJ22.out;have:=HK4.out;omega
                     case rel=>exact ⟨(y476),(wrap64 (x56_4+1)),(by first|rfl|(simp;done)|(simp [*];done)),H',⟨by have:=HJ3.out;have:=HK2.out;have:=HJ22.out;have:=HK4.out;omega⟩,⟨uR HO_8⟩,⟨Kd.R_mono (uR HO_54) (fun _ hk=>hk.2)⟩,⟨uK BK461⟩,⟨(vB HB)⟩⟩
                    ·
                     rw [if_neg c47] at H;exact absurd H (by simp)
                   ·
                    rw [if_neg c46] at H;exact absurd H (by simp)
                  ·
                   rw [if_neg c45] at H;exact absurd H (by simp)
                 ·
                  rw [if_neg c44] at H;exact absurd H (by simp)
                ·
                 rw [if_neg c43] at H;have c43b0:=decide_eq_false c43;clear c43;have H':=Zk H;clear H;go_wp2;go_roundg k4
                 case measure=>have:=HJ3.out;have:=HK2.out;have:=HJ22.out;have:=HK4.out;omega
                 case rel=>exact ⟨(x8_4),(wrap64 (x27_2+1)),(by first|rfl|(simp;done)|(simp [*];done)),H',⟨by have:=HJ3.out;have:=HK2.out;have:=HJ22.out;have:=HK4.out;omega⟩,⟨Kd.R_mono (uR HO_8) (fun _ hk=>trivial)⟩,⟨uK BK461⟩,⟨(vB HB)⟩⟩
          ·
           rw [if_neg c22] at H;exact absurd H (by simp)
         ·
          rw [if_neg c21] at H;exact absurd H (by simp)
        ·
         rw [if_neg c20] at H;have c20b0:=decide_eq_false c20;clear c20;simp only [Option.some.injEq,Prod.mk.injEq] at H;obtain ⟨rfl,rfl⟩:=H;go_wp2
         go_ret2
         exact ⟨_,by first|rfl|(simp [Qe,Qf] <;>rfl)|(simp [*,Qe,Qf] <;>rfl),uR HO_8,(vB HB)⟩
     ·
      rw [if_neg c15] at H;exact absurd H (by simp)
    ·
     rw [if_neg c14] at H;exact absurd H (by simp)
def Qcy.f (k:Nat) (l0_0:List Int) (l1:List Int):Option (List Int × Bool):=(Qz.f k l0_0 l1 20).bind fun bt478=>(some (bt478.1,bt478.2))
theorem Qcy.mono: ∀ a0 a1 k,LeO (Qcy.f k a0 a1) (Qcy.f (k+1) a0 a1):=by
 intro a0 a1 k;unfold Qcy.f
 repeat' (with_reducible first|apply Qz.mono|exact LeO.refl _|exact LeO.none _|refine LeO.ite ?_ ?_|refine LeO.bind ?_ (fun _=> ?_))
set_option maxHeartbeats 8000000 in
set_option maxRecDepth 100000 in
theorem Qcy.calls (k:Nat) (A0_0:Option Addr) (c0_0:Nat) (l0_0:List Int) (A1:Option Addr) (c1:Nat) (l1:List Int) (r1:List Int) (r2:Bool) (w:World) (hr0_0:Kd.C (Kd.int .i64) w A0_0 l0_0.length l0_0) (hc0_0:l0_0.length≤c0_0) (hr1:Kd.C (Kd.int .i64) w A1 l1.length l1) (hc1:l1.length≤c1) (h:Qcy.f k l0_0 l1=some (r1,r2)):
 Calls Try.prog 41 #[.agg #[.slice A0_0 l0_0.length c0_0], .slice A1 l1.length c1] w fun e w'=> ∃ v0_:Value,e= .returned (.tuple #[v0_, .bool r2])∧Kd.R (Kd.int .i64) 3 w' w.heap.size (fun _=>True) v0_ r1∧Below w.heap.size w w':=by
 have hu26:=Try.underlying26;have HR0_0:=Zk hr0_0;have HC0_0:=Zk hc0_0;clear hr0_0 hc0_0;have HR1:=Zk hr1;have HC1:=Zk hc1;clear hr1 hc1;have HB:=Zk (Below.refl w.heap.size w);have H:((Qz.f k l0_0 l1 20).bind fun bt478=>(some (bt478.1,bt478.2)))=some (r1,r2):=h;clear h;obtain ⟨⟨t478,t481⟩,A3,H⟩:=bs H;(try dsimp only at H)
 simp only [Option.some.injEq,Prod.mk.injEq] at H;obtain ⟨rfl,rfl⟩:=H;go_enter Try.func41,Try.ntmps41;go_wp2_with (first|(refine bE (N:=2) (cs:= #[.slice A0_0 l0_0.length c0_0]) (t:=26) ?_;intro gb477 hg w4 hbox hb;have BK477:=Zk (hbox);have GW477:=Zk ((by rw [hg];exact (Qh (uB HB)):w.heap.size≤gb477));have GE477:=GW477;replace HB:=Zk (Qc (uB HB) hb);clear hb hbox hg;have hcz5_0:=bC BK477;have hfz5_0:=Qg BK477.out 0)|(refine gA (some 8) Try.func98 #[.agg #[.slice A0_0 l0_0.length c0_0], .slice A1 l1.length c1, .int .i64 20] ?_;(with_reducible refine (Qz.calls k _ _ l0_0 _ _ l1 20 t478 t481 _ (uD HR0_0 HB) HC0_0.out (uD HR1 HB) HC1.out A3.out).mono ?_);rintro e w6 ⟨v479,rfl,ho0,hb⟩;refine ⟨_,rfl,?_⟩;have HO480:=Zk (Kd.R_lower ho0 (Qh (vB HB)));replace BK477:=Zk (Qd (uK BK477) hb);replace HB:=Zk (Qc (vB HB) hb);(try clear hb ho0)))
 go_ret2
 exact ⟨_,by first|rfl|(simp [Qe,Qf] <;>rfl)|(simp [*,Qe,Qf] <;>rfl),uR HO480,(vB HB)⟩
def Qdv.f (k:Nat) (l0_0:List Int) (a1:Int):Option (Bool × Bool):=(Qdm.f k l0_0 a1).bind fun t483=>(if t483=true then ((Q9.f k l0_0 a1).bind fun t484=>(some ((t484==a1),true))) else (some (false,false)))
theorem Qdv.mono: ∀ a0 a1 k,LeO (Qdv.f k a0 a1) (Qdv.f (k+1) a0 a1):=by
 intro a0 a1 k;unfold Qdv.f
 repeat' (with_reducible first|apply Q9.mono|apply Qdm.mono|exact LeO.refl _|exact LeO.none _|refine LeO.ite ?_ ?_|refine LeO.bind ?_ (fun _=> ?_))
set_option maxHeartbeats 8000000 in
set_option maxRecDepth 100000 in
theorem Qdv.calls (k:Nat) (A0_0:Option Addr) (c0_0:Nat) (l0_0:List Int) (a1:Int) (r1:Bool) (r2:Bool) (w:World) (hr0_0:Kd.C (Kd.int .i64) w A0_0 l0_0.length l0_0) (hc0_0:l0_0.length≤c0_0) (h:Qdv.f k l0_0 a1=some (r1,r2)):
 Calls Try.prog 99 #[.agg #[.slice A0_0 l0_0.length c0_0], .int .i64 a1] w fun e w'=>e= .returned (.tuple #[.bool r1, .bool r2])∧Below w.heap.size w w':=by
 have hu26:=Try.underlying26;have HR0_0:=Zk hr0_0;have HC0_0:=Zk hc0_0;clear hr0_0 hc0_0;have HB:=Zk (Below.refl w.heap.size w);have H:((Qdm.f k l0_0 a1).bind fun t483=>(if t483=true then ((Q9.f k l0_0 a1).bind fun t484=>(some ((t484==a1),true))) else (some (false,false))))=some (r1,r2):=h;clear h;obtain ⟨t483,A3,H⟩:=bs H;(try dsimp only at H)
 by_cases c4:t483=true
 ·
  subst c4;rw [if_pos rfl] at H;obtain ⟨t484,A5,H⟩:=bs H;(try dsimp only at H)
  simp only [Option.some.injEq,Prod.mk.injEq] at H;obtain ⟨rfl,rfl⟩:=H;go_enter Try.func99,Try.ntmps99;go_wp2_with (first|(refine bE (N:=2) (cs:= #[.slice A0_0 l0_0.length c0_0]) (t:=26) ?_;intro gb482 hg w6 hbox hb;have BK482:=Zk (hbox);have GW482:=Zk ((by rw [hg];exact (Qh (uB HB)):w.heap.size≤gb482));have GE482:=GW482;replace HB:=Zk (Qc (uB HB) hb);clear hb hbox hg;have hcz7_0:=bC BK482;have hfz7_0:=Qg BK482.out 0)|(refine gA (some 8) Try.func124 #[.agg #[.slice A0_0 l0_0.length c0_0], .int .i64 a1] ?_;(with_reducible refine (Qdm.calls k _ _ l0_0 a1 true _ (uD HR0_0 HB) HC0_0.out A3.out).mono ?_);rintro e w8 ⟨rfl,hb⟩;refine ⟨_,rfl,?_⟩;replace BK482:=Zk (Qd (uK BK482) hb);replace HB:=Zk (Qc (vB HB) hb);(try clear hb);have hcz9_0:=bC BK482;have hfz9_0:=Qg BK482.out 0)|(refine gA (some 12) Try.func125 #[.agg #[.slice A0_0 l0_0.length c0_0], .int .i64 a1] ?_;(with_reducible refine (Q9.calls k _ _ l0_0 a1 t484 _ (uD HR0_0 HB) HC0_0.out A5.out).mono ?_);rintro e w10 ⟨rfl,hb⟩;refine ⟨_,rfl,?_⟩;replace BK482:=Zk (Qd (uK BK482) hb);replace HB:=Zk (Qc (vB HB) hb);(try clear hb)))
  go_ret2
  exact ⟨by first|rfl|(simp [Qe,Qf] <;>rfl)|(simp [*,Qe,Qf] <;>rfl),(vB HB)⟩
 ·
  replace c4:=Bool.eq_false_iff.mpr c4;subst c4;rw [if_neg (show ¬ (false=true) by decide)] at H;simp only [Option.some.injEq,Prod.mk.injEq] at H;obtain ⟨rfl,rfl⟩:=H;go_enter Try.func99,Try.ntmps99;go_wp2_with (first|(refine bE (N:=2) (cs:= #[.slice A0_0 l0_0.length c0_0]) (t:=26) ?_;intro gb482 hg w11 hbox hb;have BK482:=Zk (hbox);have GW482:=Zk ((by rw [hg];exact (Qh (uB HB)):w.heap.size≤gb482));have GE482:=GW482;replace HB:=Zk (Qc (uB HB) hb);clear hb hbox hg;have hcz12_0:=bC BK482;have hfz12_0:=Qg BK482.out 0)|(refine gA (some 8) Try.func124 #[.agg #[.slice A0_0 l0_0.length c0_0], .int .i64 a1] ?_;(with_reducible refine (Qdm.calls k _ _ l0_0 a1 false _ (uD HR0_0 HB) HC0_0.out A3.out).mono ?_);rintro e w13 ⟨rfl,hb⟩;refine ⟨_,rfl,?_⟩;replace BK482:=Zk (Qd (uK BK482) hb);replace HB:=Zk (Qc (vB HB) hb);(try clear hb)))
  go_ret2
  exact ⟨by first|rfl|(simp [Qe,Qf] <;>rfl)|(simp [*,Qe,Qf] <;>rfl),(vB HB)⟩
def Qd5.f (k:Nat) (l0_0:List Int) (a1:Int):Option (Bool):=(Qdv.f k l0_0 a1).bind fun bt486=>(if bt486.2=true then (some bt486.1) else (some false))
theorem Qd5.mono: ∀ a0 a1 k,LeO (Qd5.f k a0 a1) (Qd5.f (k+1) a0 a1):=by
 intro a0 a1 k;unfold Qd5.f
 repeat' (with_reducible first|apply Qdv.mono|exact LeO.refl _|exact LeO.none _|refine LeO.ite ?_ ?_|refine LeO.bind ?_ (fun _=> ?_))
set_option maxHeartbeats 8000000 in
set_option maxRecDepth 100000 in
theorem Qd5.calls (k:Nat) (A0_0:Option Addr) (c0_0:Nat) (l0_0:List Int) (a1:Int) (r:Bool) (w:World) (hr0_0:Kd.C (Kd.int .i64) w A0_0 l0_0.length l0_0) (hc0_0:l0_0.length≤c0_0) (h:Qd5.f k l0_0 a1=some r):
 Calls Try.prog 42 #[.agg #[.slice A0_0 l0_0.length c0_0], .int .i64 a1] w fun e w'=>e= .returned (.bool r)∧Below w.heap.size w w':=by
 have hu26:=Try.underlying26;have HR0_0:=Zk hr0_0;have HC0_0:=Zk hc0_0;clear hr0_0 hc0_0;have HB:=Zk (Below.refl w.heap.size w);have H:((Qdv.f k l0_0 a1).bind fun bt486=>(if bt486.2=true then (some bt486.1) else (some false)))=some r:=h;clear h;obtain ⟨⟨t486,t487⟩,A3,H⟩:=bs H;(try dsimp only at H)
 by_cases c4:t487=true
 ·
  subst c4;rw [if_pos rfl] at H;obtain rfl:=Option.some.inj H;go_enter Try.func42,Try.ntmps42;go_wp2_with (first|(refine bE (N:=2) (cs:= #[.slice A0_0 l0_0.length c0_0]) (t:=26) ?_;intro gb485 hg w5 hbox hb;have BK485:=Zk (hbox);have GW485:=Zk ((by rw [hg];exact (Qh (uB HB)):w.heap.size≤gb485));have GE485:=GW485;replace HB:=Zk (Qc (uB HB) hb);clear hb hbox hg;have hcz6_0:=bC BK485;have hfz6_0:=Qg BK485.out 0)|(refine gA (some 10) Try.func99 #[.agg #[.slice A0_0 l0_0.length c0_0], .int .i64 a1] ?_;(with_reducible refine (Qdv.calls k _ _ l0_0 a1 t486 true _ (uD HR0_0 HB) HC0_0.out A3.out).mono ?_);rintro e w7 ⟨rfl,hb⟩;refine ⟨_,rfl,?_⟩;replace BK485:=Zk (Qd (uK BK485) hb);replace HB:=Zk (Qc (vB HB) hb);(try clear hb)))
  go_ret
  exact ⟨by first|rfl|(simp [Qe,Qf] <;>rfl)|(simp [*,Qe,Qf] <;>rfl),(vB HB)⟩
 ·
  replace c4:=Bool.eq_false_iff.mpr c4;subst c4;rw [if_neg (show ¬ (false=true) by decide)] at H;obtain rfl:=Option.some.inj H;go_enter Try.func42,Try.ntmps42;go_wp2_with (first|(refine bE (N:=2) (cs:= #[.slice A0_0 l0_0.length c0_0]) (t:=26) ?_;intro gb485 hg w8 hbox hb;have BK485:=Zk (hbox);have GW485:=Zk ((by rw [hg];exact (Qh (uB HB)):w.heap.size≤gb485));have GE485:=GW485;replace HB:=Zk (Qc (uB HB) hb);clear hb hbox hg;have hcz9_0:=bC BK485;have hfz9_0:=Qg BK485.out 0)|(refine gA (some 10) Try.func99 #[.agg #[.slice A0_0 l0_0.length c0_0], .int .i64 a1] ?_;(with_reducible refine (Qdv.calls k _ _ l0_0 a1 t486 false _ (uD HR0_0 HB) HC0_0.out A3.out).mono ?_);rintro e w10 ⟨rfl,hb⟩;refine ⟨_,rfl,?_⟩;replace BK485:=Zk (Qd (uK BK485) hb);replace HB:=Zk (Qc (vB HB) hb);(try clear hb)))
  go_ret
  exact ⟨by first|rfl|(simp [Qe,Qf] <;>rfl)|(simp [*,Qe,Qf] <;>rfl),(vB HB)⟩
mutual
def Qn.j1:Nat→List Int→List Int→Int→Int→List Int→Option (List Int × List Int)
 |0,_,_,_,_,_=>none
 |k+1,x8,x490000,x490001,x490002,x500000=>(Qm.f x490000 x490001 x490002 8).bind fun bt505=>(if bt505.1=0 then ((Qbh.f x490000 bt505.2.1 bt505.2.2 (([(-1),0,1,2,2048] :List Int))).bind fun bt511=>(if x8.length<17592186044416 then (some (x500000,(x8++ [bt511.1]))) else (none))) else (if bt505.1=1 then (Qn.l1 k x8 0 x500000) else (some (x500000,x8))))
def Qn.l1:Nat→List Int→Int→List Int→Option (List Int × List Int)
 |0,_,_,_=>none
 |k+1,x8,x10,x500000=>if x10<20 then (if x8.length<17592186044416 then (Qn.l1 k (x8++ [wrap64 ((shl .i64 1 (x500000.length:Int)) - 1)]) (wrap64 (x10+1)) x500000) else (none)) else (some (x500000,x8))
def Qn.l0:Nat→List Int→Int→List Int→Int→List Int→Int→Int→List Int→Option (List Int × List Int)
 |0,_,_,_,_,_,_,_,_=>none
 |k+1,x6,x7,x8,x9,x490000,x490001,x490002,x500000=>if x9<x7 then ((Qb6.f k x6 x9).bind fun t501=>(if x8.length<17592186044416 then (Qn.l0 k x6 x7 (x8++ [t501]) (wrap64 (x9+1)) x490000 x490001 x490002 x500000) else (none))) else (Qn.j1 k x8 x490000 x490001 x490002 x500000)
end
def Qn.f (k:Nat) (l0:List Int):Option (List Int × List Int):=(Qy.f k l0 0 0 6).bind fun bt490=>((Qc3.f k bt490.1 bt490.2.1 bt490.2.2.1).bind fun t500=>(if t500=true then (Qn.l0 k bt490.2.1 bt490.2.2.1 ([] :List Int) 0 l0 bt490.2.2.2.1 bt490.2.2.2.2 bt490.1) else (Qn.j1 k ([] :List Int) l0 bt490.2.2.2.1 bt490.2.2.2.2 bt490.1)))
theorem Qn.mono_l: ∀ k,(∀ y0 y1 y2 y3 y4,LeO (Qn.j1 k y0 y1 y2 y3 y4) (Qn.j1 (k+1) y0 y1 y2 y3 y4))∧(∀ y0 y1 y2,LeO (Qn.l1 k y0 y1 y2) (Qn.l1 (k+1) y0 y1 y2))∧(∀ y0 y1 y2 y3 y4 y5 y6 y7,LeO (Qn.l0 k y0 y1 y2 y3 y4 y5 y6 y7) (Qn.l0 (k+1) y0 y1 y2 y3 y4 y5 y6 y7))
 |0=>⟨fun _ _ _ _ _ r h=>by simp [Qn.j1] at h,fun _ _ _ r h=>by simp [Qn.l1] at h,fun _ _ _ _ _ _ _ _ r h=>by simp [Qn.l0] at h⟩
 |k+1=>by
  obtain ⟨ih0,ih1,ih2⟩:=Qn.mono_l k;refine ⟨?_,?_,?_⟩
  all_goals
   intros
   first|unfold Qn.j1|unfold Qn.l1|unfold Qn.l0
   repeat' (with_reducible first|apply ih0|apply ih1|apply ih2|apply Qy.mono|apply Qc3.mono|apply Qb6.mono|exact LeO.refl _|exact LeO.none _|refine LeO.ite ?_ ?_|refine LeO.bind ?_ (fun _=> ?_))
theorem Qn.mono: ∀ a0 k,LeO (Qn.f k a0) (Qn.f (k+1) a0):=by
 intro a0 k;obtain ⟨ih0,ih1,ih2⟩:=Qn.mono_l k;unfold Qn.f
 repeat' (with_reducible first|apply ih0|apply ih1|apply ih2|apply Qy.mono|apply Qc3.mono|apply Qb6.mono|exact LeO.refl _|exact LeO.none _|refine LeO.ite ?_ ?_|refine LeO.bind ?_ (fun _=> ?_))
set_option maxHeartbeats 8000000 in
set_option maxRecDepth 100000 in
theorem Qn.calls (k:Nat) (A0:Option Addr) (c0:Nat) (l0:List Int) (r1:List Int) (r2:List Int) (w:World) (hr0:Kd.C (Kd.int .u8) w A0 l0.length l0) (hc0:l0.length≤c0) (h:Qn.f k l0=some (r1,r2)):
 Calls Try.prog 43 #[.slice A0 l0.length c0] w fun e w'=> ∃ v0_ v1_:Value,e= .returned (.tuple #[.agg #[v0_],v1_])∧Kd.R (Kd.int .i64) 3 w' w.heap.size (fun k_=>some k_≠(v1_:Value).ownBlock) v0_ r1∧Kd.R (Kd.int .i64) 3 w' w.heap.size (fun k_=>some k_≠(v0_:Value).ownBlock) v1_ r2∧Below w.heap.size w w':=by
 have hu26:=Try.underlying26;have hu67:=Try.underlying67;have HR0:=Zk hr0;have HC0:=Zk hc0;clear hr0 hc0;have HB:=Zk (Below.refl w.heap.size w);have H:((Qy.f k l0 0 0 6).bind fun bt490=>((Qc3.f k bt490.1 bt490.2.1 bt490.2.2.1).bind fun t500=>(if t500=true then (Qn.l0 k bt490.2.1 bt490.2.2.1 ([] :List Int) 0 l0 bt490.2.2.2.1 bt490.2.2.2.2 bt490.1) else (Qn.j1 k ([] :List Int) l0 bt490.2.2.2.1 bt490.2.2.2.2 bt490.1))))=some (r1,r2):=h;clear h;obtain ⟨⟨t490,t493,t496,t497,t498⟩,A2,H⟩:=bs H;(try dsimp only at H)
 obtain ⟨t500,A3,H⟩:=bs H;(try dsimp only at H)
 have HC4:=Zk H;clear H;go_enter Try.func43,Try.ntmps43
 go_upto_if 23 with (first|((with_reducible refine Qb2 (N:=2) rfl ?_);refine Qeo ?hg (N:=2) ?hd (cs:= #[.slice none 0 0]) (t:=26) ?hr ?_;(case hd=>rfl);(case hg=>rfl);(case hr=>first|(go_simp;done)|(go_simp;rfl));intro gb488 hg w5 hbox hb;have BK488:=Zk (hbox);have GW488:=Zk ((by rw [hg];exact (Qh (by repeat (first|(with_reducible first|exact HB.out|apply Qq|apply Qw|apply Qbb)|exact HB.out))):w.heap.size≤gb488));have GE488:=GW488;replace HB:=Zk (Qc (by repeat (first|(with_reducible first|exact HB.out|apply Qq|apply Qw|apply Qbb)|exact HB.out)) hb);clear hb hbox hg)|((with_reducible refine Qb2 (N:=13) rfl ?_);refine Qeo ?hg (N:=13) ?hd (cs:= #[.slice A0 l0.length c0, .int .i64 0, .int .u64 0]) (t:=67) ?hr ?_;(case hd=>rfl);(case hg=>rfl);(case hr=>first|(go_simp;done)|(go_simp;rfl));intro gb489 hg w6 hbox hb;have HI489:=Zk ((⟨_,_,hbox,(by rw [hg];exact (Qh (by repeat (first|(with_reducible first|exact HB.out|apply Qq|apply Qw|apply Qbb|refine Q1 ?_ GE488.out)|exact HB.out))):w.heap.size≤gb489),HR0.out⟩:Qa w _ gb489 l0 0 0));have GW489:=Zk ((by rw [hg];exact (Qh (by repeat (first|(with_reducible first|exact HB.out|apply Qq|apply Qw|apply Qbb|refine Q1 ?_ GE488.out)|exact HB.out))):w.heap.size≤gb489));have GE489:=GW489;replace HB:=Zk (Qc (by repeat (first|(with_reducible first|exact HB.out|apply Qq|apply Qw|apply Qbb|refine Q1 ?_ GE488.out)|exact HB.out)) hb);have NB488_489:=Zk ((by rw [hg];exact Nat.ne_of_lt (Qb9 (g:=gb488) (o:= .cells #[.slice none 0 0] 26 (0,0)) (by (with_reducible repeat (first|refine Qbp ?_ _|refine Qbj ?_|refine Qbk ?_ _));exact BK488.out)):gb488≠gb489));have NB489_488:=Zk ((by rw [hg];exact Nat.ne_of_gt (Qb9 (g:=gb488) (o:= .cells #[.slice none 0 0] 26 (0,0)) (by (with_reducible repeat (first|refine Qbp ?_ _|refine Qbj ?_|refine Qbk ?_ _));exact BK488.out)):gb489≠gb488));replace BK488:=Zk (Qd (g:=gb488) (o:= .cells #[.slice none 0 0] 26 (0,0)) (by (with_reducible repeat (first|refine Qbp ?_ _|refine Qbj ?_|refine Qbk ?_ _));exact BK488.out) hb);clear hb hbox hg)|((with_reducible refine Qdx (f:=61) rfl ?_);refine Qe3 (some 16) rfl rfl Try.func61 (by kernel_rfl) rfl #[.pointer (some ⟨gb489,0,none⟩), .int .i64 6] rfl (by (try simp only [List.map_toArray,List.map_cons,List.map_nil]);first|done|rfl|(simp only [List.length_drop,List.length_take];rfl)) ?_;(with_reducible refine (Qy.calls k gb489 l0 0 0 6 t490 t493 t496 t497 t498 w _ ?side1 ?side2 A2.out).mono ?_);(case side1=>repeat (first|(with_reducible first|exact HI489.out|apply Qa.alloc|apply Qa.drewN|apply Qa.drew|apply Qa.set_1|apply Qa.set_2|refine Qa.far ?_ NB489_488.out _)|exact HI489.out));(case side2=>repeat (first|(with_reducible first|exact HB.out|apply Qq|apply Qw|apply Qbb|refine Q1 ?_ (Qa.ge HI489.out)|refine Q1 ?_ GE488.out)|exact HB.out));rintro e w7 ⟨v491,v494,rfl,ho0,ho1,hi,hb,hk⟩;refine ⟨_,rfl,?_⟩;replace BK488:=Zk (Qj.blk hk (g':=gb488) (o:= .cells #[.slice none 0 0] 26 (0,0)) (by (with_reducible repeat (first|refine Qbp ?_ _|refine Qbj ?_|refine Qbk ?_ _));exact BK488.out) NB488_489.out (by simp));have HO492:=Zk (Kd.R_lower ho0 (Qh (by repeat (first|(with_reducible first|exact HB.out|apply Qq|apply Qw|apply Qbb|refine Q1 ?_ (Qa.ge HI489.out)|refine Q1 ?_ GE488.out)|exact HB.out))));have HO495:=Zk (Kd.R_lower ho1 (Qh (by repeat (first|(with_reducible first|exact HB.out|apply Qq|apply Qw|apply Qbb|refine Q1 ?_ (Qa.ge HI489.out)|refine Q1 ?_ GE488.out)|exact HB.out))));replace HB:=Zk (hb);replace HI489:=Zk (hi);(try clear hb);(try clear hb2);(try clear hk);(try clear hi);(try clear ho0);(try clear ho1))|((with_reducible refine Qb2 (N:=5) rfl ?_);refine Qeo ?hg (N:=5) ?hd (cs:= #[.slice none 0 0]) (t:=26) ?hr ?_;(case hd=>rfl);(case hg=>rfl);(case hr=>first|(go_simp;done)|(go_simp;rfl));intro gb499 hg w8 hbox hb;replace HO492:=Zk (Kd.R_below (by (with_reducible repeat (first|apply Kd.R_alloc|apply Kd.R_drewN|apply Kd.R_drew));exact HO492.out) hb);replace HO495:=Zk (Kd.R_below (by (with_reducible repeat (first|apply Kd.R_alloc|apply Kd.R_drewN|apply Kd.R_drew));exact HO495.out) hb);have BK499:=Zk (hbox);have GW499:=Zk ((by rw [hg];exact (Qh (by repeat (first|(with_reducible first|exact HB.out|apply Qq|apply Qw|apply Qbb|refine Q1 ?_ (Qa.ge HI489.out)|refine Q1 ?_ GE488.out)|exact HB.out))):w.heap.size≤gb499));have GE499:=GW499;replace HB:=Zk (Qc (by repeat (first|(with_reducible first|exact HB.out|apply Qq|apply Qw|apply Qbb|refine Q1 ?_ (Qa.ge HI489.out)|refine Q1 ?_ GE488.out)|exact HB.out)) hb);have NB488_499:=Zk ((by rw [hg];exact Nat.ne_of_lt (Qb9 (g:=gb488) (o:= .cells #[.slice none 0 0] 26 (0,0)) (by (with_reducible repeat (first|refine Qbp ?_ _|refine Qbj ?_|refine Qbk ?_ _));exact BK488.out)):gb488≠gb499));have NB499_488:=Zk ((by rw [hg];exact Nat.ne_of_gt (Qb9 (g:=gb488) (o:= .cells #[.slice none 0 0] 26 (0,0)) (by (with_reducible repeat (first|refine Qbp ?_ _|refine Qbj ?_|refine Qbk ?_ _));exact BK488.out)):gb499≠gb488));replace BK488:=Zk (Qd (g:=gb488) (o:= .cells #[.slice none 0 0] 26 (0,0)) (by (with_reducible repeat (first|refine Qbp ?_ _|refine Qbj ?_|refine Qbk ?_ _));exact BK488.out) hb);have NB489_499:=Zk ((by rw [hg];exact Nat.ne_of_lt (Qa.lt (show Qa w _ gb489 l0 t497 t498 from by repeat (first|(with_reducible first|exact HI489.out|apply Qa.alloc|apply Qa.drewN|apply Qa.drew|apply Qa.set_1|apply Qa.set_2|refine Qa.far ?_ NB489_488.out _)|exact HI489.out))):gb489≠gb499));have NB499_489:=Zk ((by rw [hg];exact Nat.ne_of_gt (Qa.lt (show Qa w _ gb489 l0 t497 t498 from by repeat (first|(with_reducible first|exact HI489.out|apply Qa.alloc|apply Qa.drewN|apply Qa.drew|apply Qa.set_1|apply Qa.set_2|refine Qa.far ?_ NB489_488.out _)|exact HI489.out))):gb499≠gb489));replace HI489:=Zk (Qa.below (by repeat (first|(with_reducible first|exact HI489.out|apply Qa.alloc|apply Qa.drewN|apply Qa.drew|apply Qa.set_1|apply Qa.set_2|refine Qa.far ?_ NB489_488.out _)|exact HI489.out)) hb);clear hb hbox hg;obtain ⟨Ao9,co9,eo9⟩:=Kd.R_slice HO492.out;subst eo9;have hnb10:=NB499_488.out;have hnc10:=NB488_499.out;have hnb11:=NB499_489.out;have hnc11:=NB489_499.out;have hcz12_0:w8.cell? ⟨gb499,0,none⟩=some (.slice none 0 0):=(Qb4 BK499.out 0).trans rfl;have hfz12_0:=Qg BK499.out 0;obtain ⟨Ao13,co13,eo13⟩:=Kd.R_slice HO495.out;subst eo13)|((with_reducible refine Qdx (f:=69) rfl ?_);refine Qe3 (some 23) rfl rfl Try.func69 (by kernel_rfl) rfl #[.agg #[.slice Ao9 t490.length co9], .slice Ao13 t493.length co13, .int .i64 t496] rfl (by (try simp only [List.map_toArray,List.map_cons,List.map_nil]);first|done|rfl|(simp only [List.length_drop,List.length_take];rfl)) ?_;(with_reducible refine (Qc3.calls k _ _ t490 _ _ t493 t496 t500 _ ?side1 ?side2 ?side3 ?side4 A3.out).mono ?_);(case side1=>refine (Kd.R_reads' (e:=3) (base:=w.heap.size) (ok:=fun k_=>some k_≠(.slice Ao13 t493.length co13:Value).ownBlock) (n:=t490.length) (c:=co9) ?_).2.2;exact (by (with_reducible repeat (first|apply Kd.R_alloc|apply Kd.R_drewN|apply Kd.R_drew));exact (Kd.R_mono (Kd.R_far (p:=⟨gb499,0,none⟩) (Kd.R_types HO492.out BK499.out (by decide)) (fun _ hk=>hk.2) (.slice Ao9 t490.length co9)) (fun _ h_=>h_.1))));(case side2=>exact (Kd.R_reads' HO492.out).2.1);(case side3=>refine (Kd.R_reads' (e:=3) (base:=w.heap.size) (ok:=fun k_=>some k_≠(.slice Ao9 t490.length co9:Value).ownBlock) (n:=t493.length) (c:=co13) ?_).2.2;exact (by (with_reducible repeat (first|apply Kd.R_alloc|apply Kd.R_drewN|apply Kd.R_drew));exact (Kd.R_mono (Kd.R_far (p:=⟨gb499,0,none⟩) (Kd.R_types HO495.out BK499.out (by decide)) (fun _ hk=>hk.2) (.slice Ao9 t490.length co9)) (fun _ h_=>h_.1))));(case side4=>exact (Kd.R_reads' HO495.out).2.1);rintro e w14 ⟨rfl,hb⟩;refine ⟨_,rfl,?_⟩;replace HO492:=Zk (Kd.R_below (by (with_reducible repeat (first|apply Kd.R_alloc|apply Kd.R_drewN|apply Kd.R_drew));exact (Kd.R_mono (Kd.R_far (p:=⟨gb499,0,none⟩) (Kd.R_types HO492.out BK499.out (by decide)) (fun _ hk=>hk.2) (.slice Ao9 t490.length co9)) (fun _ h_=>h_.1))) hb);replace HO495:=Zk (Kd.R_below (by (with_reducible repeat (first|apply Kd.R_alloc|apply Kd.R_drewN|apply Kd.R_drew));exact (Kd.R_mono (Kd.R_far (p:=⟨gb499,0,none⟩) (Kd.R_types HO495.out BK499.out (by decide)) (fun _ hk=>hk.2) (.slice Ao9 t490.length co9)) (fun _ h_=>h_.1))) hb);replace BK488:=Zk (Qd (g:=gb488) (o:= .cells #[.slice none 0 0] 26 (0,0)) (by (with_reducible repeat (first|refine Qbp ?_ _|refine Qbj ?_|refine Qbk ?_ _));refine Qdf ?_ NB488_499.out _;(with_reducible repeat (first|refine Qbp ?_ _|refine Qbj ?_|refine Qbk ?_ _));exact BK488.out) hb);replace BK499:=Zk (Qd (g:=gb499) (o:= .cells #[.slice Ao9 t490.length co9] 26 (0,0)) (by (with_reducible repeat (first|refine Qbp ?_ _|refine Qbj ?_|refine Qbk ?_ _));refine Qfk (cs:= #[.slice none 0 0]) ?_ 0 _ rfl;(with_reducible repeat (first|refine Qbp ?_ _|refine Qbj ?_|refine Qbk ?_ _));exact BK499.out) hb);replace HB:=Zk (Qc (by repeat (first|(with_reducible first|exact HB.out|apply Qq|apply Qw|apply Qbb|refine Q1 ?_ (Qa.ge HI489.out)|refine Q1 ?_ GE488.out|refine Q1 ?_ GE499.out)|exact HB.out)) hb);replace HI489:=Zk (Qa.below (show Qa w (w8.setCell ⟨gb499,0,none⟩ (.slice Ao9 t490.length co9)) gb489 l0 t497 t498 from by repeat (first|(with_reducible first|exact HI489.out|apply Qa.alloc|apply Qa.drewN|apply Qa.drew|apply Qa.set_1|apply Qa.set_2|refine Qa.far ?_ NB489_488.out _|refine Qa.far ?_ NB489_499.out _)|exact HI489.out)) hb);(try clear hb);(try clear hb2);(try clear hk);(try clear hi)))
 (try simp only [Act.put,List.setIfInBounds_toArray,List.set_cons_zero,List.set_cons_succ])
 go_cut [8] (fun v8 wc=> ∃ (kq:Nat) (x8_3:List Int),Z0 (Qn.j1 kq x8_3 l0 t497 t498 t490=some (r1,r2))∧Z0 (kq≤k)∧Z0 (Kd.R (Kd.int .i64) 3 wc w.heap.size (fun k_=>some k_≠((.slice Ao9 t490.length co9):Value).ownBlock) v8 x8_3)∧Z0 (Kd.R (Kd.int .i64) 3 wc w.heap.size (fun k_=>some k_≠(v8:Value).ownBlock) (.slice Ao9 t490.length co9) t490)∧Z0 (wc.heap[gb488]? =some (.cells #[(.slice none 0 0)] 26 (0,0)))∧Z0 (wc.heap[gb499]? =some (.cells #[(.slice Ao9 t490.length co9)] 26 (0,0)))∧Z0 (Qa w wc gb489 l0 t497 t498)∧Z0 (Below w.heap.size w wc))
 case first=>
  have H:=HC4.out;clear HC4
  by_cases c15:t500=true
  ·
   subst c15;rw [if_pos rfl] at H;have H':=Zk H;clear H;go_wp2
   go_loopg [8,9] k (fun kq v8 v9 w'=> ∃ (x8_1:List Int) (x9_1:Int),v9= .int .i64 x9_1∧Z0 (Qn.l0 kq t493 t496 x8_1 x9_1 l0 t497 t498 t490=some (r1,r2))∧Z0 (kq≤k)∧Z0 (Kd.R (Kd.int .i64) 3 w' w.heap.size (fun k_=>some k_≠(v8:Value).ownBlock∧some k_≠((.slice Ao9 t490.length co9):Value).ownBlock) (.slice Ao13 t493.length co13) t493)∧Z0 (Kd.R (Kd.int .i64) 3 w' w.heap.size (fun k_=>some k_≠((.slice Ao13 t493.length co13):Value).ownBlock∧some k_≠((.slice Ao9 t490.length co9):Value).ownBlock) v8 x8_1)∧Z0 (Kd.R (Kd.int .i64) 3 w' w.heap.size (fun k_=>some k_≠((.slice Ao13 t493.length co13):Value).ownBlock∧some k_≠(v8:Value).ownBlock) (.slice Ao9 t490.length co9) t490)∧Z0 (w'.heap[gb488]? =some (.cells #[(.slice none 0 0)] 26 (0,0)))∧Z0 (w'.heap[gb499]? =some (.cells #[(.slice Ao9 t490.length co9)] 26 (0,0)))∧Z0 (Qa w w' gb489 l0 t497 t498)∧Z0 (Below w.heap.size w w'))
   case atStart=>exact ⟨(([] :List Int)),(0),(by first|rfl|(simp;done)|(simp [*];done)),H',⟨Nat.le_refl _⟩,⟨Kd.R_mono (uR HO495) (fun _ hk=>⟨(by simp [Value.ownBlock]),hk⟩)⟩,⟨by first|exact Kd.R_nil _ _ _ _ _|exact Kd.N_nil _ _ _ _ _|exact Kd.V_nil _ _ _ _ _|exact Kd.Q_nil _ _ _ _ _|exact Kd.S_nil _ _ _ _ _⟩,⟨Kd.R_mono (uR HO492) (fun _ hk=>⟨hk,(by simp [Value.ownBlock])⟩)⟩,⟨uK BK488⟩,⟨uK BK499⟩,⟨Qa.u HI489⟩,⟨(Qa.vB HB)⟩⟩
   case round=>
    clear H'
    try clear hcz12_0 hfz12_0
    obtain ⟨x8_1,x9_1,rfl,HA,HK1,HO_6,HO_8,HO_500000,BK488,BK499,HI489,HB⟩:=hrel;cases gk with
    |zero=>exact absurd HA.out (by simp [Qn.l0])
    |succ k1=>
     have H:=HA.out;clear HA;simp only [Qn.l0] at H
     by_cases c16:x9_1<t496
     ·
      rw [if_pos c16] at H;have c16b0:=decide_eq_true c16;clear c16
      (first|rw [c16b0] |(simp only [Qci,Qdb];rw [c16b0])|skip)
      obtain ⟨t501,A17,H⟩:=bs H;(try dsimp only at H)
      by_cases c18:x8_1.length<17592186044416
      ·
       rw [if_pos c18] at H;have LMc18:=Zk c18;clear c18;obtain ⟨y502,hy502⟩: ∃ y_:List Int,y_=(x8_1++ [t501]):=⟨_,rfl⟩
       replace H:(Qn.l0 k1 t493 t496 y502 (wrap64 (x9_1+1)) l0 t497 t498 t490)=some (r1,r2):=by first|(rw [hy502];with_reducible exact H)|(have H2_:=(Option.bind_some _ _).symm.trans H;rw [hy502];with_reducible exact H2_)|(have H2_:=(Option.bind_some _ _).symm.trans H;with_reducible exact H2_)|with_reducible exact H|(rw [hy502];exact H)|exact H
       have Ny502:=Zk hy502;clear hy502;have H':=Zk H;clear H;go_wp2_with (first|(refine gA (some 32) Try.func97 #[.slice Ao13 t493.length co13, .int .i64 x9_1] ?_;(with_reducible refine (Qb6.calls k1 _ _ t493 x9_1 t501 _ (uE HO_6) ?side2 A17.out).mono ?_);(case side2=>exact (Kd.R_reads' HO_6.out).2.1);rintro e w' ⟨rfl,⟨nd,rfl⟩⟩;refine ⟨_,rfl,?_⟩)|((with_reducible refine Qcl (b:= .append) (xs:= #[.tmp 29, .tmp 33]) rfl ?_);at_builtin;refine Kd.R_append (Kd.int .i64) (w0:=w) w.heap.size rfl (.tmp 29) (.tmp 33) 24 3 (.int .i64 0) 8 rfl Try.underlying24 Qed rfl (by decide) (by omega) u8 x8_1 t501 [.int .i64 t501] (fun k_=>some k_≠(.slice Ao13 t493.length co13:Value).ownBlock∧some k_≠(.slice Ao9 t490.length co9:Value).ownBlock) (fun _=>False) rfl rfl ?aP (fun _ hk=>hk.elim) ?aF ?aO ?aB ?aS ?aL ?_;(case aP=>exact rfl);(case aB=>exact (Qa.vB HB));(case aF=>exact (fun k_ hk=>⟨Kd.fresh' (Kd.R_lt (uR HO_6)) k_ hk,Kd.fresh' (Kd.R_lt (uR HO_500000)) k_ hk⟩));(case aO=>exact (uR HO_8));(case aS=>exact (Qh (Qa.vB HB)));(case aL=>have:=LMc18.out;omega);intro v503 w19 ho hb hg hat;rw [←Ny502.out] at ho;replace HO_6:=Zk (Kd.R_after (ok:=(fun k_=>some k_≠(.slice Ao9 t490.length co9:Value).ownBlock)) (Kd.R_mono (uR HO_6) (fun _ hk=>⟨hk.2,hk.1⟩)) hg hat);replace HO_500000:=Zk (Kd.R_after (ok:=(fun k_=>some k_≠(.slice Ao13 t493.length co13:Value).ownBlock)) (uR HO_500000) hg hat);replace BK488:=Zk (Qb8 (uK BK488) hg (Kd.R_ne HO_8.out BK488.out (by decide)));replace BK499:=Zk (Qb8 (uK BK499) hg (Kd.R_ne HO_8.out BK499.out (by decide)));replace HI489:=Zk (Qa.grown (Qa.u HI489) hg (Qa.own_ne HI489.out HO_8.out (by decide)));replace HB:=Zk (hb);have HO504:=Zk (ho);clear HO_8;clear ho hb hg hat));go_roundg k1
       case measure=>have:=HK1.out;omega
       case rel=>exact ⟨(y502),(wrap64 (x9_1+1)),(by first|rfl|(simp;done)|(simp [*];done)),H',⟨by have:=HK1.out;omega⟩,⟨Kd.R_mono (uR HO_6) (fun _ hk=>⟨hk.2,hk.1⟩)⟩,⟨uR HO504⟩,⟨uR HO_500000⟩,⟨uK BK488⟩,⟨uK BK499⟩,⟨Qa.u HI489⟩,⟨(Qa.vB HB)⟩⟩
      ·
       rw [if_neg c18] at H;exact absurd H (by simp)
     ·
      rw [if_neg c16] at H;have c16b0:=decide_eq_false c16;clear c16
      (first|rw [c16b0] |(simp only [Qci,Qdb];rw [c16b0])|skip)
      have H':=Zk H;clear H;go_wp2
      go_meet
      case rel=>exact ⟨_,(x8_1),H',⟨by have:=HK1.out;first|omega|exact Nat.le_refl _⟩,⟨Kd.R_mono (uR HO_8) (fun _ hk=>hk.2)⟩,⟨Kd.R_mono (uR HO_500000) (fun _ hk=>hk.2)⟩,⟨uK BK488⟩,⟨uK BK499⟩,⟨Qa.u HI489⟩,⟨(Qa.vB HB)⟩⟩
  ·
   replace c15:=Bool.eq_false_iff.mpr c15;subst c15;rw [if_neg (show ¬ (false=true) by decide)] at H;have H':=Zk H;clear H;go_wp2
   go_meet
   case rel=>exact ⟨_,(([] :List Int)),H',⟨by first|omega|exact Nat.le_refl _⟩,⟨by first|exact Kd.R_nil _ _ _ _ _|exact Kd.N_nil _ _ _ _ _|exact Kd.V_nil _ _ _ _ _|exact Kd.Q_nil _ _ _ _ _|exact Kd.S_nil _ _ _ _ _⟩,⟨Kd.R_mono (uR HO492) (fun _ hk=>(by simp [Value.ownBlock]))⟩,⟨uK BK488⟩,⟨uK BK499⟩,⟨Qa.u HI489⟩,⟨(Qa.vB HB)⟩⟩
 case rest=>
  clear HC4
  try clear hcz12_0 hfz12_0
  obtain ⟨kq,x8_3,HA,HJ3,HO_8,HO_500000,BK488,BK499,HI489,HB⟩:=hcut;cases kq with
  |zero=>exact absurd HA.out (by simp [Qn.j1])
  |succ kj3=>
   have H:=HA.out;clear HA;simp only [Qn.j1] at H;obtain ⟨⟨t505,t506,t507⟩,A20,H⟩:=bs H;(try dsimp only at H)
   by_cases c21:t505=0
   ·
    rw [if_pos c21] at H;have c21b0:(t505==0)=true:=beq_iff_eq.mpr c21;have c21b1:(t505 !=0)=false:=bne_eq_false_iff_eq.mpr c21;clear c21;obtain ⟨y508,hy508⟩: ∃ y_:List Int,y_=(([(-1),0,1,2,2048] :List Int)):=⟨_,rfl⟩
    replace H:((Qbh.f l0 t506 t507 y508).bind fun bt511=>(if x8_3.length<17592186044416 then (some (t490,(x8_3++ [bt511.1]))) else (none)))=some (r1,r2):=by first|(rw [hy508];with_reducible exact H)|(have H2_:=(Option.bind_some _ _).symm.trans H;rw [hy508];with_reducible exact H2_)|(have H2_:=(Option.bind_some _ _).symm.trans H;with_reducible exact H2_)|with_reducible exact H|(rw [hy508];exact H)|exact H
    have Ny508:=Zk hy508;clear hy508;obtain ⟨⟨t511,t512,t513⟩,A22,H⟩:=bs H;(try dsimp only at H)
    by_cases c23:x8_3.length<17592186044416
    ·
     rw [if_pos c23] at H;have LMc23:=Zk c23;clear c23;obtain ⟨y514,hy514⟩: ∃ y_:List Int,y_=(x8_3++ [t511]):=⟨_,rfl⟩
     replace H:(some (t490,y514))=some (r1,r2):=by first|(rw [hy514];with_reducible exact H)|(have H2_:=(Option.bind_some _ _).symm.trans H;rw [hy514];with_reducible exact H2_)|(have H2_:=(Option.bind_some _ _).symm.trans H;with_reducible exact H2_)|with_reducible exact H|(rw [hy514];exact H)|exact H
     have Ny514:=Zk hy514;clear hy514;simp only [Option.some.injEq,Prod.mk.injEq] at H;obtain ⟨rfl,rfl⟩:=H;go_wp2_with (first|(refine gA (some 36) Try.func58 #[.pointer (some ⟨gb489,0,none⟩), .int .i64 8] ?_;(with_reducible refine (Qm.calls gb489 l0 t497 t498 8 t505 t506 t507 w _ (Qa.u HI489) (Qa.vB HB) A20.out).mono ?_);rintro e w24 ⟨rfl,hi,hb,hk⟩;refine ⟨_,rfl,?_⟩;replace HO_8:=Zk (Kd.R_mono (Kd.R_keep (Qa.apart (show Qa w _ gb489 l0 t497 t498 from Qa.u HI489) (uR HO_8) (by decide)) hk (fun _ h=>h.2)) (fun _ h=>h.1));replace HO_500000:=Zk (Kd.R_mono (Kd.R_keep (Qa.apart (show Qa w _ gb489 l0 t497 t498 from Qa.u HI489) (uR HO_500000) (by decide)) hk (fun _ h=>h.2)) (fun _ h=>h.1));replace BK488:=Zk (Qj.blk hk (g':=gb488) (o:= .cells #[.slice none 0 0] 26 (0,0)) (uK BK488) NB488_489.out (by simp));replace BK499:=Zk (Qj.blk hk (g':=gb499) (o:= .cells #[.slice Ao9 t490.length co9] 26 (0,0)) (uK BK499) NB499_489.out (by simp));replace HB:=Zk (hb);replace HI489:=Zk (hi);(try clear hb hk hi))|((with_reducible refine Qb2 (N:=41) rfl ?_);refine Kd.R_lit (Kd.int .i64) _ 3 ?hg (N:=41) ?hd (xs:=([(-1),0,1,2,2048] :List Int)) (inner:= [.int .i64 (-1), .int .i64 0, .int .i64 1, .int .i64 2, .int .i64 2048]) (ok:=fun _=>True) (okp:=fun _=>True) ?hr ?hp (fun _ hk=>hk) trivial (Below.refl _ _) (Nat.le_refl _) (by simp) ?_;(case hd=>rfl);(case hg=>rfl);(case hr=>first|(go_simp;done)|(go_simp;rfl));(case hp=>exact (Reps.one (show Kd.M (Kd.int .i64) _ _ _ (-1) [.int .i64 (-1)] from rfl) (Reps.one (show Kd.M (Kd.int .i64) _ _ _ 0 [.int .i64 0] from rfl) (Reps.one (show Kd.M (Kd.int .i64) _ _ _ 1 [.int .i64 1] from rfl) (Reps.one (show Kd.M (Kd.int .i64) _ _ _ 2 [.int .i64 2] from rfl) (Reps.one (show Kd.M (Kd.int .i64) _ _ _ 2048 [.int .i64 2048] from rfl) (Reps.none _ _)))))));intro v509 w25 ho26 hb hg_ hnew_;clear hg_ hnew_;(first|rw [←Ny508.out] at ho26|(simp only [Int.reduceToNat] at ho26;rw [←Ny508.out] at ho26));have HO510:=Zk (Kd.R_lower (Kd.R_new' (Kd.R_new' ho26 (Kd.R_lt (uR HO_8))) (Kd.R_lt (uR HO_500000))) (Qh (Qa.vB HB)));replace HO_8:=Zk (Kd.R_elder' (uR HO_8) (Kd.R_base ho26) hb);replace HO_500000:=Zk (Kd.R_elder' (uR HO_500000) (Kd.R_base ho26) hb);replace BK488:=Zk (Qd (uK BK488) hb);replace BK499:=Zk (Qd (uK BK499) hb);replace HI489:=Zk (Qa.below (Qa.u HI489) hb);replace HB:=Zk (Qc (Qa.vB HB) hb);clear hb ho26;obtain ⟨Ao27,co27,eo27⟩:=Kd.R_slice HO510.out;subst eo27)|(refine gA (some 42) Try.func94 #[.pointer (some ⟨gb489,0,none⟩), .slice Ao27 y508.length co27] ?_;(with_reducible refine (Qbh.calls gb489 l0 t506 t507 _ _ y508 t511 t512 t513 w _ (Qa.u HI489) (Qa.vB HB) (uE HO510) ?side4 ?side5 A22.out).mono ?_);(case side4=>exact (Kd.R_reads' HO510.out).2.1);(case side5=>exact Qeh (Qa.own_ne HI489.out HO510.out (by decide)));rintro e w28 ⟨rfl,hi,hb,hk⟩;refine ⟨_,rfl,?_⟩;replace HO_8:=Zk (Kd.R_mono (Kd.R_keep (Qa.apart (show Qa w _ gb489 l0 t506 t507 from Qa.u HI489) (uR HO_8) (by decide)) hk (fun _ h=>h.2)) (fun _ h=>h.1));replace HO_500000:=Zk (Kd.R_mono (Kd.R_keep (Qa.apart (show Qa w _ gb489 l0 t506 t507 from Qa.u HI489) (uR HO_500000) (by decide)) hk (fun _ h=>h.2)) (fun _ h=>h.1));replace BK488:=Zk (Qj.blk hk (g':=gb488) (o:= .cells #[.slice none 0 0] 26 (0,0)) (uK BK488) NB488_489.out (by simp));replace BK499:=Zk (Qj.blk hk (g':=gb499) (o:= .cells #[.slice Ao9 t490.length co9] 26 (0,0)) (uK BK499) NB499_489.out (by simp));replace HO510:=Zk (Kd.R_mono (Kd.R_keep (Qa.apart (show Qa w _ gb489 l0 t506 t507 from Qa.u HI489) (uR HO510) (by decide)) hk (fun _ h=>h.2)) (fun _ h=>h.1));replace HB:=Zk (hb);replace HI489:=Zk (hi);(try clear hb hk hi))|((with_reducible refine Qcl (b:= .append) (xs:= #[.tmp 39, .tmp 43]) rfl ?_);at_builtin;refine Kd.R_append (Kd.int .i64) (w0:=w) w.heap.size rfl (.tmp 39) (.tmp 43) 24 3 (.int .i64 0) 8 rfl Try.underlying24 Qed rfl (by decide) (by omega) u8 x8_3 t511 [.int .i64 t511] (fun k_=>some k_≠(.slice Ao9 t490.length co9:Value).ownBlock∧some k_≠(.slice Ao27 y508.length co27:Value).ownBlock) (fun _=>False) rfl rfl ?aP (fun _ hk=>hk.elim) ?aF ?aO ?aB ?aS ?aL ?_;(case aP=>exact rfl);(case aB=>exact (Qa.vB HB));(case aF=>exact (fun k_ hk=>⟨Kd.fresh' (Kd.R_lt (uR HO_500000)) k_ hk,Kd.fresh' (Kd.R_lt (uR HO510)) k_ hk⟩));(case aO=>exact (uR HO_8));(case aS=>exact (Qh (Qa.vB HB)));(case aL=>have:=LMc23.out;omega);intro v515 w29 ho hb hg hat;rw [←Ny514.out] at ho;replace HO_500000:=Zk (Kd.R_after (ok:=(fun k_=>some k_≠(.slice Ao27 y508.length co27:Value).ownBlock)) (Kd.R_mono (uR HO_500000) (fun _ hk=>⟨hk.2,hk.1⟩)) hg hat);replace BK488:=Zk (Qb8 (uK BK488) hg (Kd.R_ne HO_8.out BK488.out (by decide)));replace BK499:=Zk (Qb8 (uK BK499) hg (Kd.R_ne HO_8.out BK499.out (by decide)));replace HI489:=Zk (Qa.grown (Qa.u HI489) hg (Qa.own_ne HI489.out HO_8.out (by decide)));replace HO510:=Zk (Kd.R_after (ok:=(fun k_=>some k_≠(.slice Ao9 t490.length co9:Value).ownBlock)) (Kd.R_mono (uR HO510) (fun _ hk=>⟨hk.2,hk.1.2⟩)) hg hat);replace HB:=Zk (hb);have HO516:=Zk (ho);clear HO_8;clear ho hb hg hat;have hnb30:=NB499_488.out;have hnc30:=NB488_499.out;have hnb31:=NB499_489.out;have hnc31:=NB489_499.out;have hcz32_0:=bC BK499;have hfz32_0:=Qg BK499.out 0;have hnb33:=NB488_489.out;have hnc33:=NB489_488.out;have hcz34_0:=bC BK488;have hfz34_0:=Qg BK488.out 0))
     refine bodyPost_ret (Qee rfl _ _ gb488 26 #[.slice Ao9 t490.length co9] (0,0) _ rfl bP Try.underlying26 rfl (by kernel_rfl)) rfl ?_;exact ⟨_,_,by first|rfl|(simp [Qe,Qf] <;>rfl)|(simp [*,Qe,Qf] <;>rfl),by (with_reducible repeat (first|apply Kd.R_alloc|apply Kd.R_drewN|apply Kd.R_drew));exact Kd.R_mono (Kd.R_far (p:=⟨gb488,0,none⟩) (Kd.R_types HO_500000.out BK488.out (by decide)) (fun _ hk=>hk.2) (.slice Ao9 t490.length co9)) (fun _ hk=>hk.1.2),by (with_reducible repeat (first|apply Kd.R_alloc|apply Kd.R_drewN|apply Kd.R_drew));exact Kd.R_mono (Kd.R_far (p:=⟨gb488,0,none⟩) (Kd.R_types HO516.out BK488.out (by decide)) (fun _ hk=>hk.2) (.slice Ao9 t490.length co9)) (fun _ hk=>hk.1.1),(Qa.vB HB)⟩
    ·
     rw [if_neg c23] at H;exact absurd H (by simp)
   ·
    rw [if_neg c21] at H;have c21b0:(t505==0)=false:=beq_eq_false_iff_ne.mpr c21;have c21b1:(t505 !=0)=true:=bne_iff_ne.mpr c21
    by_cases c35:t505=1
    ·
     rw [if_pos c35] at H;have c35b0:(t505==1)=true:=beq_iff_eq.mpr c35;have c35b1:(t505 !=1)=false:=bne_eq_false_iff_eq.mpr c35;clear c35;have H':=Zk H;clear H;go_wp2_with (first|(refine gA (some 36) Try.func58 #[.pointer (some ⟨gb489,0,none⟩), .int .i64 8] ?_;(with_reducible refine (Qm.calls gb489 l0 t497 t498 8 t505 t506 t507 w _ (Qa.u HI489) (Qa.vB HB) A20.out).mono ?_);rintro e w36 ⟨rfl,hi,hb,hk⟩;refine ⟨_,rfl,?_⟩;replace HO_8:=Zk (Kd.R_mono (Kd.R_keep (Qa.apart (show Qa w _ gb489 l0 t497 t498 from Qa.u HI489) (uR HO_8) (by decide)) hk (fun _ h=>h.2)) (fun _ h=>h.1));replace HO_500000:=Zk (Kd.R_mono (Kd.R_keep (Qa.apart (show Qa w _ gb489 l0 t497 t498 from Qa.u HI489) (uR HO_500000) (by decide)) hk (fun _ h=>h.2)) (fun _ h=>h.1));replace BK488:=Zk (Qj.blk hk (g':=gb488) (o:= .cells #[.slice none 0 0] 26 (0,0)) (uK BK488) NB488_489.out (by simp));replace BK499:=Zk (Qj.blk hk (g':=gb499) (o:= .cells #[.slice Ao9 t490.length co9] 26 (0,0)) (uK BK499) NB499_489.out (by simp));replace HB:=Zk (hb);replace HI489:=Zk (hi);(try clear hb hk hi)))
     go_loopg [8,10] kj3 (fun kq v8 v10 w'=> ∃ (x8_2:List Int) (x10_2:Int),v10= .int .i64 x10_2∧Z0 (Qn.l1 kq x8_2 x10_2 t490=some (r1,r2))∧Z0 (kq≤kj3)∧Z0 (Kd.R (Kd.int .i64) 3 w' w.heap.size (fun k_=>some k_≠((.slice Ao9 t490.length co9):Value).ownBlock) v8 x8_2)∧Z0 (Kd.R (Kd.int .i64) 3 w' w.heap.size (fun k_=>some k_≠(v8:Value).ownBlock) (.slice Ao9 t490.length co9) t490)∧Z0 (w'.heap[gb488]? =some (.cells #[(.slice none 0 0)] 26 (0,0)))∧Z0 (w'.heap[gb499]? =some (.cells #[(.slice Ao9 t490.length co9)] 26 (0,0)))∧Z0 (Below w.heap.size w w'))
     case atStart=>exact ⟨(x8_3),(0),(by first|rfl|(simp;done)|(simp [*];done)),H',⟨Nat.le_refl _⟩,⟨uR HO_8⟩,⟨uR HO_500000⟩,⟨uK BK488⟩,⟨uK BK499⟩,⟨(Qa.vB HB)⟩⟩
     case round=>
      clear H'
      try clear c21 c21b0 c21b1 c35b0 c35b1
      obtain ⟨x8_2,x10_2,rfl,HA,HK2,HO_8,HO_500000,BK488,BK499,HB⟩:=hrel;cases gk with
      |zero=>exact absurd HA.out (by simp [Qn.l1])
      |succ k2=>
       have H:=HA.out;clear HA;simp only [Qn.l1] at H
       by_cases c37:x10_2<20
       ·
        rw [if_pos c37] at H;have c37b0:=decide_eq_true c37;clear c37;obtain ⟨ji38,hji38⟩: ∃ j_:Int,(shl .i64 1 (t490.length:Int))=j_:=⟨_,rfl⟩
        replace H:(if x8_2.length<17592186044416 then (Qn.l1 k2 (x8_2++ [wrap64 ((ji38) - 1)]) (wrap64 (x10_2+1)) t490) else (none))=some (r1,r2):=by first|(rw [hji38] at H;exact H)|(simp only [hji38] at H ⊢;exact H)
        have hji38_:(IntKind.i64.wrap (1*2 ^ min (t490.length:Int).toNat 64))=ji38:=hji38;have hji38z:(t490.length:Int)≤64→(IntKind.i64.wrap (1*2 ^ (t490.length:Int).toNat))=ji38:=Qeb hji38;have hji38p:(IntKind.i64.wrap (1*2 ^ min t490.length 64))=ji38:=hji38_;have hji38q:(t490.length:Int)≤64→(IntKind.i64.wrap (1*2 ^ t490.length))=ji38:=hji38z;have hji38r:(IntKind.i64.wrap (2 ^ min t490.length 64))=ji38:=by have h_:=hji38p;rw [Int.one_mul] at h_;exact h_
        have hji38s:(t490.length:Int)≤64→(IntKind.i64.wrap (2 ^ t490.length))=ji38:=fun hle_=>by have h_:=hji38q hle_;rw [Int.one_mul] at h_;exact h_
        have hji38u:(IntKind.i64.wrap (2 ^ min (t490.length:Int).toNat 64))=ji38:=by have h_:=hji38_;rw [Int.one_mul] at h_;exact h_
        have hji38v:(t490.length:Int)≤64→(IntKind.i64.wrap (2 ^ (t490.length:Int).toNat))=ji38:=fun hle_=>by have h_:=hji38z hle_;rw [Int.one_mul] at h_;exact h_
        have hji38y:(wrap64 (1*2 ^ min (t490.length:Int).toNat 64))=ji38:=(Qci _).symm.trans hji38_;have hji38x:(t490.length:Int)≤64→(wrap64 (1*2 ^ (t490.length:Int).toNat))=ji38:=fun h_=>(Qci _).symm.trans (hji38z h_)
        by_cases c39:x8_2.length<17592186044416
        ·
         rw [if_pos c39] at H;have LMc39:=Zk c39;clear c39;obtain ⟨y517,hy517⟩: ∃ y_:List Int,y_=(x8_2++ [wrap64 ((ji38) - 1)]):=⟨_,rfl⟩
         replace H:(Qn.l1 k2 y517 (wrap64 (x10_2+1)) t490)=some (r1,r2):=by first|(rw [hy517];with_reducible exact H)|(have H2_:=(Option.bind_some _ _).symm.trans H;rw [hy517];with_reducible exact H2_)|(have H2_:=(Option.bind_some _ _).symm.trans H;with_reducible exact H2_)|with_reducible exact H|(rw [hy517];exact H)|exact H
         have Ny517:=Zk hy517;clear hy517;have H':=Zk H;clear H;have hnb40:=NB499_488.out;have hnc40:=NB488_499.out;have hcz41_0:=bC BK499;have hfz41_0:=Qg BK499.out 0;go_wp2_with (first|((with_reducible refine Qcl (b:= .append) (xs:= #[.tmp 51, .tmp 57]) rfl ?_);at_builtin;refine Kd.R_append (Kd.int .i64) (w0:=w) w.heap.size rfl (.tmp 51) (.tmp 57) 24 3 (.int .i64 0) 8 rfl Try.underlying24 Qed rfl (by decide) (by omega) u8 x8_2 (wrap64 ((ji38) - 1)) [.int .i64 (wrap64 ((ji38) - 1))] (fun k_=>some k_≠(.slice Ao9 t490.length co9:Value).ownBlock) (fun _=>False) rfl rfl ?aP (fun _ hk=>hk.elim) ?aF ?aO ?aB ?aS ?aL ?_;(case aP=>exact rfl);(case aB=>exact (vB HB));(case aF=>exact (fun k_ hk=>Kd.fresh' (Kd.R_lt (uR HO_500000)) k_ hk));(case aO=>exact (uR HO_8));(case aS=>exact (Qh (vB HB)));(case aL=>have:=LMc39.out;omega);intro v518 w42 ho hb hg hat;rw [←Ny517.out] at ho;replace HO_500000:=Zk (Kd.R_after (ok:=(fun _=>True)) (Kd.R_mono (uR HO_500000) (fun _ hk=>⟨trivial,hk⟩)) hg hat);replace BK488:=Zk (Qb8 (uK BK488) hg (Kd.R_ne HO_8.out BK488.out (by decide)));replace BK499:=Zk (Qb8 (uK BK499) hg (Kd.R_ne HO_8.out BK499.out (by decide)));replace HB:=Zk (hb);have HO519:=Zk (ho);clear HO_8;clear ho hb hg hat));go_roundg k2
         case measure=>have:=HJ3.out;have:=HK2.out;omega
         case rel=>exact ⟨(y517),(wrap64 (x10_2+1)),(by first|rfl|(simp;done)|(simp [*];done)),H',⟨by have:=HJ3.out;have:=HK2.out;omega⟩,⟨uR HO519⟩,⟨Kd.R_mono (uR HO_500000) (fun _ hk=>hk.2)⟩,⟨uK BK488⟩,⟨uK BK499⟩,⟨(vB HB)⟩⟩
        ·
         rw [if_neg c39] at H;exact absurd H (by simp)
       ·
        rw [if_neg c37] at H;have c37b0:=decide_eq_false c37;clear c37;simp only [Option.some.injEq,Prod.mk.injEq] at H;obtain ⟨rfl,rfl⟩:=H;have hnb43:=NB499_488.out;have hnc43:=NB488_499.out;have hcz44_0:=bC BK499;have hfz44_0:=Qg BK499.out 0;have hcz45_0:=bC BK488;have hfz45_0:=Qg BK488.out 0;go_wp2;refine bodyPost_ret (Qee rfl _ _ gb488 26 #[.slice Ao9 t490.length co9] (0,0) _ rfl bP Try.underlying26 rfl (by kernel_rfl)) rfl ?_;exact ⟨_,_,by first|rfl|(simp [Qe,Qf] <;>rfl)|(simp [*,Qe,Qf] <;>rfl),by (with_reducible repeat (first|apply Kd.R_alloc|apply Kd.R_drewN|apply Kd.R_drew));exact Kd.R_mono (Kd.R_far (p:=⟨gb488,0,none⟩) (Kd.R_types HO_500000.out BK488.out (by decide)) (fun _ hk=>hk.2) (.slice Ao9 t490.length co9)) (fun _ hk=>hk.1),by (with_reducible repeat (first|apply Kd.R_alloc|apply Kd.R_drewN|apply Kd.R_drew));exact Kd.R_mono (Kd.R_far (p:=⟨gb488,0,none⟩) (Kd.R_types HO_8.out BK488.out (by decide)) (fun _ hk=>hk.2) (.slice Ao9 t490.length co9)) (fun _ hk=>hk.1),(vB HB)⟩
    ·
     rw [if_neg c35] at H;have c35b0:(t505==1)=false:=beq_eq_false_iff_ne.mpr c35;have c35b1:(t505 !=1)=true:=bne_iff_ne.mpr c35;simp only [Option.some.injEq,Prod.mk.injEq] at H;obtain ⟨rfl,rfl⟩:=H;go_wp2_with (first|(refine gA (some 36) Try.func58 #[.pointer (some ⟨gb489,0,none⟩), .int .i64 8] ?_;(with_reducible refine (Qm.calls gb489 l0 t497 t498 8 t505 t506 t507 w _ (Qa.u HI489) (Qa.vB HB) A20.out).mono ?_);rintro e w46 ⟨rfl,hi,hb,hk⟩;refine ⟨_,rfl,?_⟩;replace HO_8:=Zk (Kd.R_mono (Kd.R_keep (Qa.apart (show Qa w _ gb489 l0 t497 t498 from Qa.u HI489) (uR HO_8) (by decide)) hk (fun _ h=>h.2)) (fun _ h=>h.1));replace HO_500000:=Zk (Kd.R_mono (Kd.R_keep (Qa.apart (show Qa w _ gb489 l0 t497 t498 from Qa.u HI489) (uR HO_500000) (by decide)) hk (fun _ h=>h.2)) (fun _ h=>h.1));replace BK488:=Zk (Qj.blk hk (g':=gb488) (o:= .cells #[.slice none 0 0] 26 (0,0)) (uK BK488) NB488_489.out (by simp));replace BK499:=Zk (Qj.blk hk (g':=gb499) (o:= .cells #[.slice Ao9 t490.length co9] 26 (0,0)) (uK BK499) NB499_489.out (by simp));replace HB:=Zk (hb);replace HI489:=Zk (hi);(try clear hb hk hi);have hnb47:=NB499_488.out;have hnc47:=NB488_499.out;have hnb48:=NB499_489.out;have hnc48:=NB489_499.out;have hcz49_0:=bC BK499;have hfz49_0:=Qg BK499.out 0;have hnb50:=NB488_489.out;have hnc50:=NB489_488.out;have hcz51_0:=bC BK488;have hfz51_0:=Qg BK488.out 0));refine bodyPost_ret (Qee rfl _ _ gb488 26 #[.slice Ao9 t490.length co9] (0,0) _ rfl bP Try.underlying26 rfl (by kernel_rfl)) rfl ?_;exact ⟨_,_,by first|rfl|(simp [Qe,Qf] <;>rfl)|(simp [*,Qe,Qf] <;>rfl),by (with_reducible repeat (first|apply Kd.R_alloc|apply Kd.R_drewN|apply Kd.R_drew));exact Kd.R_mono (Kd.R_far (p:=⟨gb488,0,none⟩) (Kd.R_types HO_500000.out BK488.out (by decide)) (fun _ hk=>hk.2) (.slice Ao9 t490.length co9)) (fun _ hk=>hk.1),by (with_reducible repeat (first|apply Kd.R_alloc|apply Kd.R_drewN|apply Kd.R_drew));exact Kd.R_mono (Kd.R_far (p:=⟨gb488,0,none⟩) (Kd.R_types HO_8.out BK488.out (by decide)) (fun _ hk=>hk.2) (.slice Ao9 t490.length co9)) (fun _ hk=>hk.1),(Qa.vB HB)⟩
def Qdk.f (l0_0:List Int) (a1:Int):Option (Bool):=(Qcn.f a1 0 (wrap64 ((shl .i64 1 (l0_0.length:Int)) - 1))).bind fun t521=>(some t521)
set_option maxHeartbeats 8000000 in
set_option maxRecDepth 100000 in
theorem Qdk.calls (A0_0:Option Addr) (c0_0:Nat) (l0_0:List Int) (a1:Int) (r:Bool) (w:World) (hr0_0:Kd.C (Kd.int .i64) w A0_0 l0_0.length l0_0) (hc0_0:l0_0.length≤c0_0) (h:Qdk.f l0_0 a1=some r):
 Calls Try.prog 100 #[.agg #[.slice A0_0 l0_0.length c0_0], .int .i64 a1] w fun e w'=>e= .returned (.bool r)∧Below w.heap.size w w':=by
 have hu26:=Try.underlying26;have HR0_0:=Zk hr0_0;have HC0_0:=Zk hc0_0;clear hr0_0 hc0_0;have HB:=Zk (Below.refl w.heap.size w);have H:((Qcn.f a1 0 (wrap64 ((shl .i64 1 (l0_0.length:Int)) - 1))).bind fun t521=>(some t521))=some r:=h;clear h;obtain ⟨ji3,hji3⟩: ∃ j_:Int,(shl .i64 1 (l0_0.length:Int))=j_:=⟨_,rfl⟩
 replace H:((Qcn.f a1 0 (wrap64 ((ji3) - 1))).bind fun t521=>(some t521))=some r:=by first|(rw [hji3] at H;exact H)|(simp only [hji3] at H ⊢;exact H)
 have hji3_:(IntKind.i64.wrap (1*2 ^ min (l0_0.length:Int).toNat 64))=ji3:=hji3;have hji3z:(l0_0.length:Int)≤64→(IntKind.i64.wrap (1*2 ^ (l0_0.length:Int).toNat))=ji3:=Qeb hji3;have hji3p:(IntKind.i64.wrap (1*2 ^ min l0_0.length 64))=ji3:=hji3_;have hji3q:(l0_0.length:Int)≤64→(IntKind.i64.wrap (1*2 ^ l0_0.length))=ji3:=hji3z;have hji3r:(IntKind.i64.wrap (2 ^ min l0_0.length 64))=ji3:=by have h_:=hji3p;rw [Int.one_mul] at h_;exact h_
 have hji3s:(l0_0.length:Int)≤64→(IntKind.i64.wrap (2 ^ l0_0.length))=ji3:=fun hle_=>by have h_:=hji3q hle_;rw [Int.one_mul] at h_;exact h_
 have hji3u:(IntKind.i64.wrap (2 ^ min (l0_0.length:Int).toNat 64))=ji3:=by have h_:=hji3_;rw [Int.one_mul] at h_;exact h_
 have hji3v:(l0_0.length:Int)≤64→(IntKind.i64.wrap (2 ^ (l0_0.length:Int).toNat))=ji3:=fun hle_=>by have h_:=hji3z hle_;rw [Int.one_mul] at h_;exact h_
 have hji3y:(wrap64 (1*2 ^ min (l0_0.length:Int).toNat 64))=ji3:=(Qci _).symm.trans hji3_;have hji3x:(l0_0.length:Int)≤64→(wrap64 (1*2 ^ (l0_0.length:Int).toNat))=ji3:=fun h_=>(Qci _).symm.trans (hji3z h_)
 obtain ⟨t521,A4,H⟩:=bs H;(try dsimp only at H)
 obtain rfl:=Option.some.inj H;go_enter Try.func100,Try.ntmps100;go_wp2_with (first|(refine bE (N:=2) (cs:= #[.slice A0_0 l0_0.length c0_0]) (t:=26) ?_;intro gb520 hg w5 hbox hb;have BK520:=Zk (hbox);have GW520:=Zk ((by rw [hg];exact (Qh (uB HB)):w.heap.size≤gb520));have GE520:=GW520;replace HB:=Zk (Qc (uB HB) hb);clear hb hbox hg;have hcz6_0:=bC BK520;have hfz6_0:=Qg BK520.out 0)|((with_reducible refine Qdx (f:=95) rfl ?_);refine Qe3 (some 11) rfl rfl Try.func95 (by kernel_rfl) rfl #[.int .i64 a1, .int .i64 0, .int .i64 (wrap64 ((ji3) - 1))] rfl (by (try simp only [List.map_toArray,List.map_cons,List.map_nil]);first|done|(simp only [hji3];rfl)|rfl|(simp only [List.length_drop,List.length_take];rfl)) ?_;(with_reducible refine (Qcn.calls a1 0 (wrap64 ((ji3) - 1)) t521 _ A4.out).mono ?_);rintro e w' ⟨rfl,⟨nd,rfl⟩⟩;refine ⟨_,rfl,?_⟩))
 go_ret
 exact ⟨by first|rfl|(simp [Qe,Qf] <;>rfl)|(simp only [←hji3];first|rfl|(simp [Qe,Qf] <;>rfl))|(simp [*,Qe,Qf] <;>rfl),(vB HB)⟩
def Qbx.l0:Nat→Int→List Int→Int→Int→Option (Bool)
 |0,_,_,_,_=>none
 |k+1,x1,x8,x9,x10=>if x10<x9 then (if 0≤x10 then (if x10<(x8.length:Int) then ((Qch.f x1 x10).bind fun t524=>(if t524=true then (if (Go.bits .andNot .i64 (rd x8 x10) x1)=0 then (Qbx.l0 k x1 x8 x9 (wrap64 (x10+1))) else (some false)) else (Qbx.l0 k x1 x8 x9 (wrap64 (x10+1))))) else (none)) else (none)) else (some true)
def Qbx.f (k:Nat) (l0_0:List Int) (a1:Int):Option (Bool):=Qbx.l0 k a1 l0_0 (l0_0.length:Int) 0
theorem Qbx.mono_l: ∀ k,(∀ y0 y1 y2 y3,LeO (Qbx.l0 k y0 y1 y2 y3) (Qbx.l0 (k+1) y0 y1 y2 y3))
 |0=>fun _ _ _ _ r h=>by simp [Qbx.l0] at h
 |k+1=>by
  have ih0:=Qbx.mono_l k
  ·
   intro y0 y1 y2 y3;unfold Qbx.l0
   repeat' first
   |(with_reducible exact ih0 _ _ _ _)
   |(with_reducible exact LeO.refl _)
   |(with_reducible exact LeO.none _)
   |(with_reducible refine LeO.ite ?_ ?_)
   |(with_reducible refine LeO.bind ?_ (fun _=> ?_))
   |exact ih0 _ _ _ _
   |exact LeO.none _
   |refine LeO.ite ?_ ?_
   |refine LeO.bind ?_ (fun _=> ?_)
theorem Qbx.mono: ∀ a0 a1 k,LeO (Qbx.f k a0 a1) (Qbx.f (k+1) a0 a1):=by
 intro a0 a1 k;have ih0:=Qbx.mono_l k;unfold Qbx.f
 repeat' (with_reducible first|apply ih0|exact LeO.refl _|exact LeO.none _|refine LeO.ite ?_ ?_|refine LeO.bind ?_ (fun _=> ?_))
set_option maxHeartbeats 8000000 in
set_option maxRecDepth 100000 in
theorem Qbx.calls (k:Nat) (A0_0:Option Addr) (c0_0:Nat) (l0_0:List Int) (a1:Int) (r:Bool) (w:World) (hr0_0:Kd.C (Kd.int .i64) w A0_0 l0_0.length l0_0) (hc0_0:l0_0.length≤c0_0) (h:Qbx.f k l0_0 a1=some r):
 Calls Try.prog 101 #[.agg #[.slice A0_0 l0_0.length c0_0], .int .i64 a1] w fun e w'=>e= .returned (.bool r)∧Below w.heap.size w w':=by
 have hu26:=Try.underlying26;have HR0_0:=Zk hr0_0;have HC0_0:=Zk hc0_0;clear hr0_0 hc0_0;have HB:=Zk (Below.refl w.heap.size w);have H:(Qbx.l0 k a1 l0_0 (l0_0.length:Int) 0)=some r:=h;clear h;have H':=Zk H;clear H;go_enter Try.func101,Try.ntmps101;go_wp2_with (first|(refine bE (N:=2) (cs:= #[.slice A0_0 l0_0.length c0_0]) (t:=26) ?_;intro gb522 hg w3 hbox hb;have BK522:=Zk (hbox);have GW522:=Zk ((by rw [hg];exact (Qh (uB HB)):w.heap.size≤gb522));have GE522:=GW522;replace HB:=Zk (Qc (uB HB) hb);clear hb hbox hg;have hcz4_0:=bC BK522;have hfz4_0:=Qg BK522.out 0))
 go_loopg [10] k (fun kq v10 w'=> ∃ (x10_1:Int),v10= .int .i64 x10_1∧Z0 (Qbx.l0 kq a1 l0_0 (l0_0.length:Int) x10_1=some r)∧Z0 (kq≤k)∧Z0 (w'.heap[gb522]? =some (.cells #[(.slice A0_0 l0_0.length c0_0)] 26 (0,0)))∧Z0 (Below w.heap.size w w'))
 case atStart=>exact ⟨(0),(by first|rfl|(simp;done)|(simp [*];done)),H',⟨Nat.le_refl _⟩,⟨uK BK522⟩,⟨(vB HB)⟩⟩
 case round=>
  clear H'
  try clear hcz4_0 hfz4_0
  obtain ⟨x10_1,rfl,HA,HK1,BK522,HB⟩:=hrel;cases gk with
  |zero=>exact absurd HA.out (by simp [Qbx.l0])
  |succ k1=>
   have H:=HA.out;clear HA;simp only [Qbx.l0] at H
   by_cases c5:x10_1<(l0_0.length:Int)
   ·
    rw [if_pos c5] at H;have c5b0:=decide_eq_true c5;clear c5
    by_cases c6:0≤x10_1
    ·
     rw [if_pos c6] at H;have c6b0:=decide_eq_true c6;clear c6
     by_cases c7:x10_1<(l0_0.length:Int)
     ·
      rw [if_pos c7] at H;have c7b0:=decide_eq_true c7;clear c7;obtain ⟨t524,A8,H⟩:=bs H;(try dsimp only at H)
      by_cases c9:t524=true
      ·
       subst c9;rw [if_pos rfl] at H
       by_cases c10:(Go.bits .andNot .i64 (rd l0_0 x10_1) a1)=0
       ·
        rw [if_pos c10] at H;have c10b0:((Go.bits .andNot .i64 (rd l0_0 x10_1) a1)==0)=true:=beq_iff_eq.mpr c10;have c10b1:((Go.bits .andNot .i64 (rd l0_0 x10_1) a1) !=0)=false:=bne_eq_false_iff_eq.mpr c10;clear c10;have H':=Zk H;clear H;have p523:0≤(x10_1:Int):=of_decide_eq_true (by first|(with_reducible assumption)|assumption);have q523:x10_1<(l0_0.length:Int):=of_decide_eq_true (by first|(with_reducible assumption)|assumption);obtain ⟨ad523,e523,hx523_0⟩:=Kd.at_int HR0_0.out x10_1 p523 q523;cases e523;replace hx523_0:=(HB.out.cell (World.block_lt_of_cell? w _ hx523_0)).trans hx523_0;replace p523:=eq_true p523;replace q523:=eq_true q523;go_wp2_with (first|(refine gA (some 17) Try.func59 #[.int .i64 a1, .int .i64 x10_1] ?_;(with_reducible refine (Qch.calls a1 x10_1 true _ A8.out).mono ?_);rintro e w' ⟨rfl,⟨nd,rfl⟩⟩;refine ⟨_,rfl,?_⟩));go_roundg k1
        case measure=>have:=HK1.out;omega
        case rel=>exact ⟨(wrap64 (x10_1+1)),(by first|rfl|(simp;done)|(simp [*];done)),H',⟨by have:=HK1.out;omega⟩,⟨uK BK522⟩,⟨(vB HB)⟩⟩
       ·
        rw [if_neg c10] at H;have c10b0:((Go.bits .andNot .i64 (rd l0_0 x10_1) a1)==0)=false:=beq_eq_false_iff_ne.mpr c10;have c10b1:((Go.bits .andNot .i64 (rd l0_0 x10_1) a1) !=0)=true:=bne_iff_ne.mpr c10;obtain rfl:=Option.some.inj H;have p523:0≤(x10_1:Int):=of_decide_eq_true (by first|(with_reducible assumption)|assumption);have q523:x10_1<(l0_0.length:Int):=of_decide_eq_true (by first|(with_reducible assumption)|assumption);obtain ⟨ad523,e523,hx523_0⟩:=Kd.at_int HR0_0.out x10_1 p523 q523;cases e523;replace hx523_0:=(HB.out.cell (World.block_lt_of_cell? w _ hx523_0)).trans hx523_0;replace p523:=eq_true p523;replace q523:=eq_true q523;go_wp2_with (first|(refine gA (some 17) Try.func59 #[.int .i64 a1, .int .i64 x10_1] ?_;(with_reducible refine (Qch.calls a1 x10_1 true _ A8.out).mono ?_);rintro e w' ⟨rfl,⟨nd,rfl⟩⟩;refine ⟨_,rfl,?_⟩))
        go_ret
        exact ⟨by first|rfl|(simp [Qe,Qf] <;>rfl)|(simp [*,Qe,Qf] <;>rfl),(vB HB)⟩
      ·
       replace c9:=Bool.eq_false_iff.mpr c9;subst c9;rw [if_neg (show ¬ (false=true) by decide)] at H;have H':=Zk H;clear H;have p523:0≤(x10_1:Int):=of_decide_eq_true (by first|(with_reducible assumption)|assumption);have q523:x10_1<(l0_0.length:Int):=of_decide_eq_true (by first|(with_reducible assumption)|assumption);obtain ⟨ad523,e523,hx523_0⟩:=Kd.at_int HR0_0.out x10_1 p523 q523;cases e523;replace hx523_0:=(HB.out.cell (World.block_lt_of_cell? w _ hx523_0)).trans hx523_0;replace p523:=eq_true p523;replace q523:=eq_true q523;go_wp2_with (first|(refine gA (some 17) Try.func59 #[.int .i64 a1, .int .i64 x10_1] ?_;(with_reducible refine (Qch.calls a1 x10_1 false _ A8.out).mono ?_);rintro e w' ⟨rfl,⟨nd,rfl⟩⟩;refine ⟨_,rfl,?_⟩));go_roundg k1
       case measure=>have:=HK1.out;omega
       case rel=>exact ⟨(wrap64 (x10_1+1)),(by first|rfl|(simp;done)|(simp [*];done)),H',⟨by have:=HK1.out;omega⟩,⟨uK BK522⟩,⟨(vB HB)⟩⟩
     ·
      rw [if_neg c7] at H;exact absurd H (by simp)
    ·
     rw [if_neg c6] at H;exact absurd H (by simp)
   ·
    rw [if_neg c5] at H;have c5b0:=decide_eq_false c5;clear c5;obtain rfl:=Option.some.inj H;go_wp2
    go_ret
    exact ⟨by first|rfl|(simp [Qe,Qf] <;>rfl)|(simp [*,Qe,Qf] <;>rfl),(vB HB)⟩
end Go.Proofs.Ytkgngggppcmpfaa.L
end
