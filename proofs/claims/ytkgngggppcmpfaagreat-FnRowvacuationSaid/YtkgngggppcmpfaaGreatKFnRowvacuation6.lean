/- Laws about the given program: the law FnRowvacuation answers true for every input that its row lets in; no condition is added to the given statement. Contracts of the Go functions that it reaches, and the plain proof over lists. -/
import Derived.Test.YtkgngggppcmpfaaGreatWFnRowvacuation0
import Derived.Test.YtkgngggppcmpfaaGreatKFnRowvacuation0
import Derived.Test.YtkgngggppcmpfaaGreatKFnRowvacuation1
import Derived.Test.YtkgngggppcmpfaaGreatKFnRowvacuation2
import Derived.Test.YtkgngggppcmpfaaGreatKFnRowvacuation3
import Derived.Test.YtkgngggppcmpfaaGreatKFnRowvacuation4
import Derived.Test.YtkgngggppcmpfaaGreatKFnRowvacuation5
section
namespace Go.Proofs.YtkgngggppcmpfaaGreat.L
open Go.RowKit Go.Proofs.YtkgngggppcmpfaaGreatW.PrintWords Go.Proofs.YtkgngggppcmpfaaGreatW.PrintLast Go.Proofs.YtkgngggppcmpfaaGreatW.PrintMore Go.Proofs.YtkgngggppcmpfaaGreat.X
attribute [local go_sem] Qt Qv Q2 Q3 Qm Qn Qu Qw
set_option linter.unusedVariables false
set_option linter.unusedSimpArgs false
def Qc1.f (k : Nat) (l0_0 : List Int) (a1 : Int) (a2 : Int) : Option (Int × Bool) := (Qcr.f k l0_0 a1).bind fun t576 => (if t576 = true then ((Qc9.f a2 (-1000) 1000).bind fun t577 => (if t577 = true then ((Qbq.f k l0_0 a1 a2).bind fun t578 => (some (t578, true))) else (some (0, false)))) else (some (0, false)))
theorem Qc1.mono : ∀ a0 a1 a2 k, LeO (Qc1.f k a0 a1 a2) (Qc1.f (k + 1) a0 a1 a2) := by
 intro a0 a1 a2 k;unfold Qc1.f
 repeat' (with_reducible first|apply Qbq.mono|apply Qcr.mono|exact LeO.refl _|exact LeO.none _|refine LeO.ite ?_ ?_|refine LeO.bind ?_ (fun _=> ?_))
set_option maxHeartbeats 8000000 in
set_option maxRecDepth 100000 in
theorem Qc1.calls (k : Nat) (A0_0 : Option Addr) (c0_0 : Nat) (l0_0 : List Int) (a1 : Int) (a2 : Int) (r1 : Int) (r2 : Bool) (w : World) (hr0_0 : Kd.C (Kd.int .i64) w A0_0 l0_0.length l0_0) (hc0_0 : l0_0.length ≤ c0_0) (h : Qc1.f k l0_0 a1 a2 = some (r1, r2)) :
 Calls Tryz.prog 18 #[.agg #[.slice A0_0 l0_0.length c0_0], .int .i64 a1, .int .i64 a2] w fun e w'=>e= .returned (.tuple #[.int .i64 r1, .bool r2])∧Below w.heap.size w w':=by
 have hu26:=Tryz.underlying26;have HR0_0:=Aside0.mk hr0_0;have HC0_0:=Aside0.mk hc0_0;clear hr0_0 hc0_0;have HB:=Aside0.mk (Below.refl w.heap.size w);have H:((Qcr.f k l0_0 a1).bind fun t576=>(if t576=true then ((Qc9.f a2 (-1000) 1000).bind fun t577=>(if t577=true then ((Qbq.f k l0_0 a1 a2).bind fun t578=>(some (t578,true))) else (some (0,false)))) else (some (0,false))))=some (r1,r2):=h;clear h;obtain ⟨t576,A4,H⟩:=bs H;(try dsimp only at H)
 by_cases c5:t576=true
 ·
  subst c5;rw [if_pos rfl] at H;obtain ⟨t577,A6,H⟩:=bs H;(try dsimp only at H)
  by_cases c7:t577=true
  ·
   subst c7;rw [if_pos rfl] at H;obtain ⟨t578,A8,H⟩:=bs H;(try dsimp only at H)
   simp only [Option.some.injEq,Prod.mk.injEq] at H;obtain ⟨rfl,rfl⟩:=H;go_enter Tryz.func18,Tryz.ntmps18;go_wp2_with (first|(refine bE (N:=3) (cs:= #[.slice A0_0 l0_0.length c0_0]) (t:=26) ?_;intro gb575 hg w9 hbox hb;have BK575:=Aside0.mk (hbox);have GW575:=Aside0.mk ((gV hg (uB HB)));have GE575:=GW575;replace HB:=Aside0.mk (Qa (uB HB) hb);clear hb hbox hg;have hcz10_0:=bC BK575;have hfz10_0:=Qf BK575.out 0)|(refine gA (some 10) Tryz.func158 #[.agg #[.slice A0_0 l0_0.length c0_0], .int .i64 a1] ?_;(with_reducible refine (Qcr.calls k _ _ l0_0 a1 true _ (uD HR0_0 HB) HC0_0.out A4.out).mono ?_);rintro e w11 ⟨rfl,hb⟩;refine ⟨_,rfl,?_⟩;replace BK575:=Aside0.mk (Qc (uK BK575) hb);replace HB:=Aside0.mk (Qa (uB HB) hb);(try clear hb))|(go_at_call 159;(with_reducible refine (Qc9.calls a2 (-1000) 1000 true _ A6.out).mono ?_);rintro e w' ⟨rfl,⟨nd,rfl⟩⟩;have hcz12_0:=bC BK575;have hfz12_0:=Qf BK575.out 0)|(refine gA (some 20) Tryz.func160 #[.agg #[.slice A0_0 l0_0.length c0_0], .int .i64 a1, .int .i64 a2] ?_;(with_reducible refine (Qbq.calls k _ _ l0_0 a1 a2 t578 _ ?side1 HC0_0.out A8.out).mono ?_);(case side1=>repeat (first|exact (Kd.C_below HR0_0.out (uB HB))|(with_reducible refine Kd.C_alloc ?_ _)|(with_reducible refine Kd.C_drewN ?_ _)|(with_reducible refine Kd.C_drew ?_)));rintro e w13 ⟨rfl,hb⟩;refine ⟨_,rfl,?_⟩;replace BK575:=Aside0.mk (Qc (uK BK575) hb);replace HB:=Aside0.mk (Qa (uB HB) hb);(try clear hb)))
   go_ret2
   exact ⟨by first|rfl|(simp [Qd,Qe] <;>rfl)|(simp [*,Qd,Qe] <;>rfl),uB HB⟩
  ·
   replace c7:=Bool.eq_false_iff.mpr c7;subst c7;rw [if_neg (show ¬ (false=true) by decide)] at H;simp only [Option.some.injEq,Prod.mk.injEq] at H;obtain ⟨rfl,rfl⟩:=H;go_enter Tryz.func18,Tryz.ntmps18;go_wp2_with (first|(refine bE (N:=3) (cs:= #[.slice A0_0 l0_0.length c0_0]) (t:=26) ?_;intro gb575 hg w14 hbox hb;have BK575:=Aside0.mk (hbox);have GW575:=Aside0.mk ((gV hg (uB HB)));have GE575:=GW575;replace HB:=Aside0.mk (Qa (uB HB) hb);clear hb hbox hg;have hcz15_0:=bC BK575;have hfz15_0:=Qf BK575.out 0)|(refine gA (some 10) Tryz.func158 #[.agg #[.slice A0_0 l0_0.length c0_0], .int .i64 a1] ?_;(with_reducible refine (Qcr.calls k _ _ l0_0 a1 true _ (uD HR0_0 HB) HC0_0.out A4.out).mono ?_);rintro e w16 ⟨rfl,hb⟩;refine ⟨_,rfl,?_⟩;replace BK575:=Aside0.mk (Qc (uK BK575) hb);replace HB:=Aside0.mk (Qa (uB HB) hb);(try clear hb))|(go_at_call 159;(with_reducible refine (Qc9.calls a2 (-1000) 1000 false _ A6.out).mono ?_);rintro e w' ⟨rfl,⟨nd,rfl⟩⟩))
   go_ret2
   exact ⟨by first|rfl|(simp [Qd,Qe] <;>rfl)|(simp [*,Qd,Qe] <;>rfl),uB HB⟩
 ·
  replace c5:=Bool.eq_false_iff.mpr c5;subst c5;rw [if_neg (show ¬ (false=true) by decide)] at H;simp only [Option.some.injEq,Prod.mk.injEq] at H;obtain ⟨rfl,rfl⟩:=H;go_enter Tryz.func18,Tryz.ntmps18;go_wp2_with (first|(refine bE (N:=3) (cs:= #[.slice A0_0 l0_0.length c0_0]) (t:=26) ?_;intro gb575 hg w17 hbox hb;have BK575:=Aside0.mk (hbox);have GW575:=Aside0.mk ((gV hg (uB HB)));have GE575:=GW575;replace HB:=Aside0.mk (Qa (uB HB) hb);clear hb hbox hg;have hcz18_0:=bC BK575;have hfz18_0:=Qf BK575.out 0)|(refine gA (some 10) Tryz.func158 #[.agg #[.slice A0_0 l0_0.length c0_0], .int .i64 a1] ?_;(with_reducible refine (Qcr.calls k _ _ l0_0 a1 false _ (uD HR0_0 HB) HC0_0.out A4.out).mono ?_);rintro e w19 ⟨rfl,hb⟩;refine ⟨_,rfl,?_⟩;replace BK575:=Aside0.mk (Qc (uK BK575) hb);replace HB:=Aside0.mk (Qa (uB HB) hb);(try clear hb)))
  go_ret2
  exact ⟨by first|rfl|(simp [Qd,Qe] <;>rfl)|(simp [*,Qd,Qe] <;>rfl),uB HB⟩
def Qdb.f (k : Nat) (l0_0 : List Int) (a1 : Int) : Option (Int × Bool) := (Qc1.f k l0_0 a1 1).bind fun bt580 => (some (bt580.1, bt580.2))
theorem Qdb.mono : ∀ a0 a1 k, LeO (Qdb.f k a0 a1) (Qdb.f (k + 1) a0 a1) := by
 intro a0 a1 k;unfold Qdb.f
 repeat' (with_reducible first|apply Qc1.mono|exact LeO.refl _|exact LeO.none _|refine LeO.ite ?_ ?_|refine LeO.bind ?_ (fun _=> ?_))
set_option maxHeartbeats 8000000 in
set_option maxRecDepth 100000 in
theorem Qdb.calls (k : Nat) (A0_0 : Option Addr) (c0_0 : Nat) (l0_0 : List Int) (a1 : Int) (r1 : Int) (r2 : Bool) (w : World) (hr0_0 : Kd.C (Kd.int .i64) w A0_0 l0_0.length l0_0) (hc0_0 : l0_0.length ≤ c0_0) (h : Qdb.f k l0_0 a1 = some (r1, r2)) :
 Calls Tryz.prog 16 #[.agg #[.slice A0_0 l0_0.length c0_0], .int .i64 a1] w fun e w'=>e= .returned (.tuple #[.int .i64 r1, .bool r2])∧Below w.heap.size w w':=by
 have hu26:=Tryz.underlying26;have HR0_0:=Aside0.mk hr0_0;have HC0_0:=Aside0.mk hc0_0;clear hr0_0 hc0_0;have HB:=Aside0.mk (Below.refl w.heap.size w);have H:((Qc1.f k l0_0 a1 1).bind fun bt580=>(some (bt580.1,bt580.2)))=some (r1,r2):=h;clear h;obtain ⟨⟨t580,t581⟩,A3,H⟩:=bs H;(try dsimp only at H)
 simp only [Option.some.injEq,Prod.mk.injEq] at H;obtain ⟨rfl,rfl⟩:=H;go_enter Tryz.func16,Tryz.ntmps16;go_wp2_with (first|(refine bE (N:=2) (cs:= #[.slice A0_0 l0_0.length c0_0]) (t:=26) ?_;intro gb579 hg w4 hbox hb;have BK579:=Aside0.mk (hbox);have GW579:=Aside0.mk ((gV hg (uB HB)));have GE579:=GW579;replace HB:=Aside0.mk (Qa (uB HB) hb);clear hb hbox hg;have hcz5_0:=bC BK579;have hfz5_0:=Qf BK579.out 0)|(refine gA (some 8) Tryz.func18 #[.agg #[.slice A0_0 l0_0.length c0_0], .int .i64 a1, .int .i64 1] ?_;(with_reducible refine (Qc1.calls k _ _ l0_0 a1 1 t580 t581 _ (uD HR0_0 HB) HC0_0.out A3.out).mono ?_);rintro e w6 ⟨rfl,hb⟩;refine ⟨_,rfl,?_⟩;replace BK579:=Aside0.mk (Qc (uK BK579) hb);replace HB:=Aside0.mk (Qa (uB HB) hb);(try clear hb)))
 go_ret2
 exact ⟨by first|rfl|(simp [Qd,Qe] <;>rfl)|(simp [*,Qd,Qe] <;>rfl),uB HB⟩
def Qeb.f (k : Nat) (l0_0 : List Int) : Option (List Int × Bool) := (Qcp.f k l0_0).bind fun t583 => (if t583 = true then ((Q6.f k l0_0).bind fun t584 => (some (t584, true))) else (some (([] : List Int), false)))
theorem Qeb.mono : ∀ a0 k, LeO (Qeb.f k a0) (Qeb.f (k + 1) a0) := by
 intro a0 k;unfold Qeb.f
 repeat' (with_reducible first|apply Q6.mono|apply Qcp.mono|exact LeO.refl _|exact LeO.none _|refine LeO.ite ?_ ?_|refine LeO.bind ?_ (fun _=> ?_))
set_option maxHeartbeats 8000000 in
set_option maxRecDepth 100000 in
theorem Qeb.calls (k : Nat) (A0_0 : Option Addr) (c0_0 : Nat) (l0_0 : List Int) (r1 : List Int) (r2 : Bool) (w : World) (hr0_0 : Kd.C (Kd.int .i64) w A0_0 l0_0.length l0_0) (hc0_0 : l0_0.length ≤ c0_0) (h : Qeb.f k l0_0 = some (r1, r2)) :
 Calls Tryz.prog 17 #[.agg #[.slice A0_0 l0_0.length c0_0]] w fun e w'=> ∃ v0_:Value,e= .returned (.tuple #[v0_, .bool r2])∧Kd.R (Kd.int .i64) 3 w' w.heap.size (fun _=>True) v0_ r1∧Below w.heap.size w w':=by
 have hu26:=Tryz.underlying26;have HR0_0:=Aside0.mk hr0_0;have HC0_0:=Aside0.mk hc0_0;clear hr0_0 hc0_0;have HB:=Aside0.mk (Below.refl w.heap.size w);have H:((Qcp.f k l0_0).bind fun t583=>(if t583=true then ((Q6.f k l0_0).bind fun t584=>(some (t584,true))) else (some (([] :List Int),false))))=some (r1,r2):=h;clear h;obtain ⟨t583,A2,H⟩:=bs H;(try dsimp only at H)
 by_cases c3:t583=true
 ·
  subst c3;rw [if_pos rfl] at H;obtain ⟨t584,A4,H⟩:=bs H;(try dsimp only at H)
  simp only [Option.some.injEq,Prod.mk.injEq] at H;obtain ⟨rfl,rfl⟩:=H;go_enter Tryz.func17,Tryz.ntmps17;go_wp2_with (first|(refine bE (N:=1) (cs:= #[.slice A0_0 l0_0.length c0_0]) (t:=26) ?_;intro gb582 hg w5 hbox hb;have BK582:=Aside0.mk (hbox);have GW582:=Aside0.mk ((gV hg (uB HB)));have GE582:=GW582;replace HB:=Aside0.mk (Qa (uB HB) hb);clear hb hbox hg;have hcz6_0:=bC BK582;have hfz6_0:=Qf BK582.out 0)|(refine gA (some 5) Tryz.func156 #[.agg #[.slice A0_0 l0_0.length c0_0]] ?_;(with_reducible refine (Qcp.calls k _ _ l0_0 true _ (uD HR0_0 HB) HC0_0.out A2.out).mono ?_);rintro e w7 ⟨rfl,hb⟩;refine ⟨_,rfl,?_⟩;replace BK582:=Aside0.mk (Qc (uK BK582) hb);replace HB:=Aside0.mk (Qa (uB HB) hb);(try clear hb);have hcz8_0:=bC BK582;have hfz8_0:=Qf BK582.out 0)|(refine gA (some 8) Tryz.func157 #[.agg #[.slice A0_0 l0_0.length c0_0]] ?_;(with_reducible refine (Q6.calls k _ _ l0_0 t584 _ (uD HR0_0 HB) HC0_0.out A4.out).mono ?_);rintro e w9 ⟨v585,rfl,ho0,hb⟩;refine ⟨_,rfl,?_⟩;have HO586:=Aside0.mk (Kd.R_lower ho0 (Qp (uB HB)));replace BK582:=Aside0.mk (Qc (uK BK582) hb);replace HB:=Aside0.mk (Qa (uB HB) hb);(try clear hb ho0)))
  go_ret2
  exact ⟨_,by first|rfl|(simp [Qd,Qe] <;>rfl)|(simp [*,Qd,Qe] <;>rfl),uR HO586,uB HB⟩
 ·
  replace c3:=Bool.eq_false_iff.mpr c3;subst c3;rw [if_neg (show ¬ (false=true) by decide)] at H;simp only [Option.some.injEq,Prod.mk.injEq] at H;obtain ⟨rfl,rfl⟩:=H;go_enter Tryz.func17,Tryz.ntmps17;go_wp2_with (first|(refine bE (N:=1) (cs:= #[.slice A0_0 l0_0.length c0_0]) (t:=26) ?_;intro gb582 hg w10 hbox hb;have BK582:=Aside0.mk (hbox);have GW582:=Aside0.mk ((gV hg (uB HB)));have GE582:=GW582;replace HB:=Aside0.mk (Qa (uB HB) hb);clear hb hbox hg;have hcz11_0:=bC BK582;have hfz11_0:=Qf BK582.out 0)|(refine gA (some 5) Tryz.func156 #[.agg #[.slice A0_0 l0_0.length c0_0]] ?_;(with_reducible refine (Qcp.calls k _ _ l0_0 false _ (uD HR0_0 HB) HC0_0.out A2.out).mono ?_);rintro e w12 ⟨rfl,hb⟩;refine ⟨_,rfl,?_⟩;replace BK582:=Aside0.mk (Qc (uK BK582) hb);replace HB:=Aside0.mk (Qa (uB HB) hb);(try clear hb)))
  go_ret2
  exact ⟨_,by first|rfl|(simp [Qd,Qe] <;>rfl)|(simp [*,Qd,Qe] <;>rfl),by first|exact Kd.R_nil _ _ _ _ _|exact Kd.N_nil _ _ _ _ _|exact Kd.V_nil _ _ _ _ _|exact Kd.Q_nil _ _ _ _ _|exact Kd.S_nil _ _ _ _ _,uB HB⟩
def Qbh.l0 : Nat → Int → List (List Int) → Int → Option (List Int)
 |0,_,_,_=>none
 |k+1,x4,x5,x6=>if x6<x4 then (if x5.length<5864062014805 then (Qbh.l0 k x4 (x5++ [(([wrap64 (x6 - 1),x6] :List Int))]) (wrap64 (x6+1))) else (none)) else ((Qbg.f k x4 x5).bind fun t601=>(some t601))
def Qbh.f (k : Nat) (l0 : List Int) : Option (List Int) := (Qcv.f l0 0 0 4).bind fun bt589 => (if bt589.1 = true then ((Qz.f l0 bt589.2.1 bt589.2.2 10).bind fun bt592 => (Qbh.l0 k (wrap64 (1 + bt592.1)) ([] : List (List Int)) 1)) else ((Q0.f k l0 bt589.2.1 bt589.2.2 10).bind fun bt604 => (some bt604.1)))
theorem Qbh.mono_l : ∀ k, (∀ y0 y1 y2, LeO (Qbh.l0 k y0 y1 y2) (Qbh.l0 (k + 1) y0 y1 y2))
 |0=>fun _ _ _ r h=>by simp [Qbh.l0] at h
 |k+1=>by
  have ih0:=Qbh.mono_l k
  ·
   intro y0 y1 y2;unfold Qbh.l0
   repeat' first
   |(with_reducible exact ih0 _ _ _)
   |(with_reducible exact Q0.mono _ _ _ _ _)
   |(with_reducible exact Qbg.mono _ _ _)
   |(with_reducible exact LeO.refl _)
   |(with_reducible exact LeO.none _)
   |(with_reducible refine LeO.ite ?_ ?_)
   |(with_reducible refine LeO.bind ?_ (fun _=> ?_))
   |exact ih0 _ _ _
   |exact Q0.mono _ _ _ _ _
   |exact Qbg.mono _ _ _
   |exact LeO.none _
   |refine LeO.ite ?_ ?_
   |refine LeO.bind ?_ (fun _=> ?_)
theorem Qbh.mono : ∀ a0 k, LeO (Qbh.f k a0) (Qbh.f (k + 1) a0) := by
 intro a0 k;have ih0:=Qbh.mono_l k;unfold Qbh.f
 repeat' (with_reducible first|apply ih0|apply Q0.mono|apply Qbg.mono|exact LeO.refl _|exact LeO.none _|refine LeO.ite ?_ ?_|refine LeO.bind ?_ (fun _=> ?_))
set_option maxHeartbeats 8000000 in
set_option maxRecDepth 100000 in
theorem Qbh.calls (k : Nat) (A0 : Option Addr) (c0 : Nat) (l0 : List Int) (r : List Int) (w : World) (hr0 : Kd.C (Kd.int .u8) w A0 l0.length l0) (hc0 : l0.length ≤ c0) (h : Qbh.f k l0 = some r) :
 Calls Tryz.prog 19 #[.slice A0 l0.length c0] w fun e w'=> ∃ v0_:Value,e= .returned (.agg #[v0_])∧Kd.R (Kd.int .i64) 3 w' w.heap.size (fun _=>True) v0_ r∧Below w.heap.size w w':=by
 have hu26:=Tryz.underlying26;have hu94:=Tryz.underlying94;have HR0:=Aside0.mk hr0;have HC0:=Aside0.mk hc0;clear hr0 hc0;have HB:=Aside0.mk (Below.refl w.heap.size w);have H:((Qcv.f l0 0 0 4).bind fun bt589=>(if bt589.1=true then ((Qz.f l0 bt589.2.1 bt589.2.2 10).bind fun bt592=>(Qbh.l0 k (wrap64 (1+bt592.1)) ([] :List (List Int)) 1)) else ((Q0.f k l0 bt589.2.1 bt589.2.2 10).bind fun bt604=>(some bt604.1))))=some r:=h;clear h;obtain ⟨⟨t589,t590,t591⟩,A2,H⟩:=bs H;(try dsimp only at H)
 by_cases c3:t589=true
 ·
  subst c3;rw [if_pos rfl] at H;obtain ⟨⟨t592,t593,t594⟩,A4,H⟩:=bs H;(try dsimp only at H)
  have H':=Aside0.mk H;clear H;go_enter Tryz.func19,Tryz.ntmps19;go_wp2_with (first|((with_reducible refine Qc0 (N:=2) rfl ?_);refine Qe3 ?hg (N:=2) ?hd (cs:= #[.slice none 0 0]) (t:=26) ?hr ?_;(case hd=>rfl);(case hg=>rfl);(case hr=>first|(go_simp;done)|(go_simp;rfl));intro gb587 hg w5 hbox hb;have BK587:=Aside0.mk (hbox);have GW587:=Aside0.mk ((by rw [hg];exact (Qp (by repeat (first|(with_reducible first|exact HB.out|apply Qo|apply Qq|apply Qy)|exact HB.out))):w.heap.size≤gb587));have GE587:=GW587;replace HB:=Aside0.mk (Qa (by repeat (first|(with_reducible first|exact HB.out|apply Qo|apply Qq|apply Qy)|exact HB.out)) hb);clear hb hbox hg)|((with_reducible refine Qc0 (N:=9) rfl ?_);refine Qe3 ?hg (N:=9) ?hd (cs:= #[.slice A0 l0.length c0, .int .i64 0, .int .u64 0]) (t:=94) ?hr ?_;(case hd=>rfl);(case hg=>rfl);(case hr=>first|(go_simp;done)|(go_simp;rfl));intro gb588 hg w6 hbox hb;have HI588:=Aside0.mk ((⟨_,_,hbox,(by rw [hg];exact (Qp (by repeat (first|(with_reducible first|exact HB.out|apply Qo|apply Qq|apply Qy|refine Q4 ?_ GE587.out)|exact HB.out))):w.heap.size≤gb588),HR0.out⟩:Qb w _ gb588 l0 0 0));have GW588:=Aside0.mk ((by rw [hg];exact (Qp (by repeat (first|(with_reducible first|exact HB.out|apply Qo|apply Qq|apply Qy|refine Q4 ?_ GE587.out)|exact HB.out))):w.heap.size≤gb588));have GE588:=GW588;replace HB:=Aside0.mk (Qa (by repeat (first|(with_reducible first|exact HB.out|apply Qo|apply Qq|apply Qy|refine Q4 ?_ GE587.out)|exact HB.out)) hb);have NB587_588:=Aside0.mk ((by rw [hg];exact Nat.ne_of_lt (Qcc (g:=gb587) (o:= .cells #[.slice none 0 0] 26 (0,0)) (by (with_reducible repeat (first|refine Qk ?_ _|refine Qj ?_|refine Qi ?_ _));exact BK587.out)):gb587≠gb588));have NB588_587:=Aside0.mk ((by rw [hg];exact Nat.ne_of_gt (Qcc (g:=gb587) (o:= .cells #[.slice none 0 0] 26 (0,0)) (by (with_reducible repeat (first|refine Qk ?_ _|refine Qj ?_|refine Qi ?_ _));exact BK587.out)):gb588≠gb587));replace BK587:=Aside0.mk (Qc (g:=gb587) (o:= .cells #[.slice none 0 0] 26 (0,0)) (by (with_reducible repeat (first|refine Qk ?_ _|refine Qj ?_|refine Qi ?_ _));exact BK587.out) hb);clear hb hbox hg)|((with_reducible refine Qdp (f:=161) rfl ?_);refine Qeu (some 11) rfl rfl Tryz.func161 (by kernel_rfl) rfl #[.pointer (some ⟨gb588,0,none⟩), .int .i64 4] rfl (by (try simp only [List.map_toArray,List.map_cons,List.map_nil]);first|done|rfl|(simp only [List.length_drop,List.length_take];rfl)) ?_;(with_reducible refine (Qcv.calls gb588 l0 0 0 4 true t590 t591 w _ ?side1 ?side2 A2.out).mono ?_);(case side1=>repeat (first|(with_reducible first|exact HI588.out|apply Qb.alloc|apply Qb.drewN|apply Qb.drew|apply Qb.set_1|apply Qb.set_2|refine Qb.far ?_ NB588_587.out _)|exact HI588.out));(case side2=>repeat (first|(with_reducible first|exact HB.out|apply Qo|apply Qq|apply Qy|refine Q4 ?_ (Qb.ge HI588.out)|refine Q4 ?_ GE587.out)|exact HB.out));rintro e w7 ⟨rfl,hi,hb,hk⟩;refine ⟨_,rfl,?_⟩;replace BK587:=Aside0.mk (Qg.blk hk (g':=gb587) (o:= .cells #[.slice none 0 0] 26 (0,0)) (by (with_reducible repeat (first|refine Qk ?_ _|refine Qj ?_|refine Qi ?_ _));exact BK587.out) NB587_588.out (by simp));replace HB:=Aside0.mk (hb);replace HI588:=Aside0.mk (hi);(try clear hb);(try clear hb2);(try clear hk);(try clear hi))|((with_reducible refine Qdp (f:=162) rfl ?_);refine Qeu (some 13) rfl rfl Tryz.func162 (by kernel_rfl) rfl #[.pointer (some ⟨gb588,0,none⟩), .int .i64 10] rfl (by (try simp only [List.map_toArray,List.map_cons,List.map_nil]);first|done|rfl|(simp only [List.length_drop,List.length_take];rfl)) ?_;(with_reducible refine (Qz.calls gb588 l0 t590 t591 10 t592 t593 t594 w _ ?side1 ?side2 A4.out).mono ?_);(case side1=>repeat (first|(with_reducible first|exact HI588.out|apply Qb.alloc|apply Qb.drewN|apply Qb.drew|apply Qb.set_1|apply Qb.set_2|refine Qb.far ?_ NB588_587.out _)|exact HI588.out));(case side2=>repeat (first|(with_reducible first|exact HB.out|apply Qo|apply Qq|apply Qy|refine Q4 ?_ (Qb.ge HI588.out)|refine Q4 ?_ GE587.out)|exact HB.out));rintro e w8 ⟨rfl,hi,hb,hk⟩;refine ⟨_,rfl,?_⟩;replace BK587:=Aside0.mk (Qg.blk hk (g':=gb587) (o:= .cells #[.slice none 0 0] 26 (0,0)) (by (with_reducible repeat (first|refine Qk ?_ _|refine Qj ?_|refine Qi ?_ _));exact BK587.out) NB587_588.out (by simp));replace HB:=Aside0.mk (hb);replace HI588:=Aside0.mk (hi);(try clear hb);(try clear hb2);(try clear hk);(try clear hi)))
  go_loopg [5,6] k (fun kq v5 v6 w'=> ∃ (x5_1:List (List Int)) (x6_1:Int),v6= .int .i64 x6_1∧Aside0 (Qbh.l0 kq (wrap64 (1+t592)) x5_1 x6_1=some r)∧Aside0 (kq≤k)∧Aside0 (Kd.S (Kd.slice 3 (Kd.int .i64)) 24 w' w.heap.size (fun _=>True) v5 x5_1)∧Aside0 (w'.heap[gb587]? =some (.cells #[(.slice none 0 0)] 26 (0,0)))∧Aside0 (Below w.heap.size w w'))
  case atStart=>exact ⟨(([] :List (List Int))),(1),(by first|rfl|(simp;done)|(simp [*];done)),H',⟨Nat.le_refl _⟩,⟨by first|exact Kd.S_nil _ _ _ _ _|exact Kd.N_nil _ _ _ _ _|exact Kd.V_nil _ _ _ _ _|exact Kd.Q_nil _ _ _ _ _|exact Kd.R_nil _ _ _ _ _⟩,⟨uK BK587⟩,⟨uB HB⟩⟩
  case round=>
   clear H'
   try clear c1
   try clear p2
   try clear c3
   try clear p6
   obtain ⟨x5_1,x6_1,rfl,HA,HK1,HO_5,BK587,HB⟩:=hrel;cases gk with
   |zero=>exact absurd HA.out (by simp [Qbh.l0])
   |succ k1=>
    have H:=HA.out;clear HA;simp only [Qbh.l0] at H
    by_cases c9:x6_1<(wrap64 (1+t592))
    ·
     rw [if_pos c9] at H;have c9b0:=decide_eq_true c9;clear c9;obtain ⟨y595,hy595⟩: ∃ y_:List Int,y_=(([wrap64 (x6_1 - 1),x6_1] :List Int)):=⟨_,rfl⟩
     replace H:(if x5_1.length<5864062014805 then (Qbh.l0 k1 (wrap64 (1+t592)) (x5_1++ [y595]) (wrap64 (x6_1+1))) else (none))=some r:=by first|(rw [hy595];with_reducible exact H)|(have H2_:=(Option.bind_some _ _).symm.trans H;rw [hy595];with_reducible exact H2_)|(have H2_:=(Option.bind_some _ _).symm.trans H;with_reducible exact H2_)|with_reducible exact H|(rw [hy595];exact H)|exact H
     have Ny595:=Aside0.mk hy595;clear hy595
     by_cases c10:x5_1.length<5864062014805
     ·
      rw [if_pos c10] at H;have LMc10:=Aside0.mk c10;clear c10;obtain ⟨y598,hy598⟩: ∃ y_:List (List Int),y_=(x5_1++ [y595]):=⟨_,rfl⟩
      replace H:(Qbh.l0 k1 (wrap64 (1+t592)) y598 (wrap64 (x6_1+1)))=some r:=by first|(rw [hy598];with_reducible exact H)|(have H2_:=(Option.bind_some _ _).symm.trans H;rw [hy598];with_reducible exact H2_)|(have H2_:=(Option.bind_some _ _).symm.trans H;with_reducible exact H2_)|with_reducible exact H|(rw [hy598];exact H)|exact H
      have Ny598:=Aside0.mk hy598;clear hy598;have H':=Aside0.mk H;clear H;go_wp2_with (first|((with_reducible refine Qc0 (N:=24) rfl ?_);refine Kd.R_lit (Kd.int .i64) _ 3 ?hg (N:=24) ?hd (xs:=([wrap64 (x6_1 - 1),x6_1] :List Int)) (inner:= [.int .i64 (wrap64 (x6_1 - 1)), .int .i64 x6_1]) (ok:=fun _=>True) (okp:=fun _=>True) ?hr ?hp (fun _ hk=>hk) trivial (Below.refl _ _) (Nat.le_refl _) (by simp) ?_;(case hd=>rfl);(case hg=>rfl);(case hr=>first|(go_simp;done)|(go_simp;rfl));(case hp=>exact (Reps.one (show Kd.M (Kd.int .i64) _ _ _ (wrap64 (x6_1 - 1)) [.int .i64 (wrap64 (x6_1 - 1))] from rfl) (Reps.one (show Kd.M (Kd.int .i64) _ _ _ x6_1 [.int .i64 x6_1] from rfl) (Reps.none _ _))));intro v596 w11 ho12 hb hg_ hnew_;clear hg_ hnew_;(first|rw [←Ny595.out] at ho12|(simp only [Int.reduceToNat] at ho12;rw [←Ny595.out] at ho12));replace HO_5:=Aside0.mk (Kd.S_elder' (uS HO_5) (Kd.R_base ho12) hb);have HO597:=Aside0.mk (Kd.R_lower ho12 (Qp (uB HB)));replace BK587:=Aside0.mk (Qc (uK BK587) hb);replace HB:=Aside0.mk (Qa (uB HB) hb);clear hb ho12;obtain ⟨Ao14,co14,eo14⟩:=Kd.R_slice HO597.out;subst eo14)|((with_reducible refine Qc4 (b:= .append) (xs:= #[.tmp 20, .tmp 25]) rfl ?_);at_builtin;refine Kd.S_append (Kd.slice 3 (Kd.int .i64)) (w0:=w) w.heap.size rfl (.tmp 20) (.tmp 25) 40 24 (.slice none 0 0) 24 rfl Tryz.underlying40 Qfw rfl (by decide) (by omega) u5 x5_1 y595 [.slice Ao14 y595.length co14] (fun _=>True) (fun k_=>some k_=(.slice Ao14 y595.length co14:Value).ownBlock) rfl rfl ?aP (fun k_ hk_=>((Kd.R_mono (ok':=fun k_=>((fun _=>True)) k_∧some k_≠(u5:Value).ownBlock) (Kd.R_apart' (HO597.out) (Kd.S_typed HO_5.out) (by decide)) (fun k_ hk=>⟨trivial,hk.2⟩))).1 k_ hk_.symm) ?aF ?aO ?aB ?aS ?aL ?_;(case aP=>exact Kd.M_row (Kd.R_mono (Kd.R_tight rfl (Kd.R_mono (ok':=fun k_=>((fun _=>True)) k_∧some k_≠(u5:Value).ownBlock) (Kd.R_apart' (HO597.out) (Kd.S_typed HO_5.out) (by decide)) (fun k_ hk=>⟨trivial,hk.2⟩))) (fun _ h_=>h_)));(case aB=>exact (uB HB));(case aF=>exact (fun _ _=>trivial));(case aO=>exact (by (with_reducible repeat (first|apply Kd.S_alloc|apply Kd.S_drewN|apply Kd.S_drew));exact Kd.S_mono HO_5.out (fun k_ hk=>⟨trivial,fun e_=>hk.2 e_⟩)));(case aS=>exact (Qp (uB HB)));(case aL=>have:=LMc10.out;omega);intro v599 w13 ho hb hg hat;rw [←Ny598.out] at ho;replace BK587:=Aside0.mk (Qds (uK BK587) hg (Kd.S_ne HO_5.out BK587.out (by decide)));replace HB:=Aside0.mk (hb);have HO600:=Aside0.mk (ho);clear HO_5 HO597;clear ho hb hg hat));go_roundg k1
      case measure=>have:=HK1.out;omega
      case rel=>exact ⟨(y598),(wrap64 (x6_1+1)),(by first|rfl|(simp;done)|(simp [*];done)),H',⟨by have:=HK1.out;omega⟩,⟨uS HO600⟩,⟨uK BK587⟩,⟨uB HB⟩⟩
     ·
      rw [if_neg c10] at H;exact absurd H (by simp)
    ·
     rw [if_neg c9] at H;have c9b0:=decide_eq_false c9;clear c9;obtain ⟨t601,A15,H⟩:=bs H;(try dsimp only at H)
     obtain rfl:=Option.some.inj H;obtain ⟨Ao16,co16,eo16⟩:=Kd.S_slice HO_5.out;subst eo16;go_wp2_with (first|(refine gA (some 29) Tryz.func163 #[.int .i64 (wrap64 (1+t592)), .slice Ao16 x5_1.length co16] ?_;(with_reducible refine (Qbg.calls k1 (wrap64 (1+t592)) _ _ x5_1 t601 _ ?side1 ?side2 A15.out).mono ?_);(case side1=>repeat (first|exact (Kd.S_reads' HO_5.out).2.2|(with_reducible refine Kd.C_alloc ?_ _)|(with_reducible refine Kd.C_drewN ?_ _)|(with_reducible refine Kd.C_drew ?_)));(case side2=>exact (Kd.S_reads' HO_5.out).2.1);rintro e w17 ⟨v602,rfl,ho0,hb⟩;refine ⟨_,rfl,?_⟩;replace HO_5:=Aside0.mk (Kd.S_elder' (uS HO_5) (Kd.R_base ho0) hb);have HO603:=Aside0.mk (Kd.R_lower ho0 (Qp (uB HB)));replace BK587:=Aside0.mk (Qc (uK BK587) hb);replace HB:=Aside0.mk (Qa (uB HB) hb);(try clear hb ho0);obtain ⟨Ao18,co18,eo18⟩:=Kd.R_slice HO603.out;subst eo18;have hcz19_0:=bC BK587;have hfz19_0:=Qf BK587.out 0));refine bodyPost_ret (results_cell_row rfl _ _ gb587 26 #[.slice Ao18 t601.length co18] (0,0) _ rfl (by (with_reducible repeat (first|refine Qk ?_ _|refine Qj ?_|refine Qi ?_ _));refine Qcs (cs:= #[.slice none 0 0]) ?_ 0 _ rfl;(with_reducible repeat (first|refine Qk ?_ _|refine Qj ?_|refine Qi ?_ _));exact BK587.out) Tryz.underlying26 rfl (by kernel_rfl)) rfl ?_;exact ⟨_,by first|rfl|(simp [Qd,Qe] <;>rfl)|(simp [*,Qd,Qe] <;>rfl),by (with_reducible repeat (first|apply Kd.R_alloc|apply Kd.R_drewN|apply Kd.R_drew));exact Kd.R_mono (Kd.R_far (p:=⟨gb587,0,none⟩) (Kd.R_types HO603.out BK587.out (by decide)) (fun _ hk=>hk.2) (.slice Ao18 t601.length co18)) (fun _ hk=>trivial),(vB HB)⟩
 ·
  replace c3:=Bool.eq_false_iff.mpr c3;subst c3;rw [if_neg (show ¬ (false=true) by decide)] at H;obtain ⟨⟨t604,t607,t608⟩,A20,H⟩:=bs H;(try dsimp only at H)
  obtain rfl:=Option.some.inj H;go_enter Tryz.func19,Tryz.ntmps19;go_wp2_with (first|((with_reducible refine Qc0 (N:=2) rfl ?_);refine Qe3 ?hg (N:=2) ?hd (cs:= #[.slice none 0 0]) (t:=26) ?hr ?_;(case hd=>rfl);(case hg=>rfl);(case hr=>first|(go_simp;done)|(go_simp;rfl));intro gb587 hg w21 hbox hb;have BK587:=Aside0.mk (hbox);have GW587:=Aside0.mk ((by rw [hg];exact (Qp (by repeat (first|(with_reducible first|exact HB.out|apply Qo|apply Qq|apply Qy)|exact HB.out))):w.heap.size≤gb587));have GE587:=GW587;replace HB:=Aside0.mk (Qa (by repeat (first|(with_reducible first|exact HB.out|apply Qo|apply Qq|apply Qy)|exact HB.out)) hb);clear hb hbox hg)|((with_reducible refine Qc0 (N:=9) rfl ?_);refine Qe3 ?hg (N:=9) ?hd (cs:= #[.slice A0 l0.length c0, .int .i64 0, .int .u64 0]) (t:=94) ?hr ?_;(case hd=>rfl);(case hg=>rfl);(case hr=>first|(go_simp;done)|(go_simp;rfl));intro gb588 hg w22 hbox hb;have HI588:=Aside0.mk ((⟨_,_,hbox,(by rw [hg];exact (Qp (by repeat (first|(with_reducible first|exact HB.out|apply Qo|apply Qq|apply Qy|refine Q4 ?_ GE587.out)|exact HB.out))):w.heap.size≤gb588),HR0.out⟩:Qb w _ gb588 l0 0 0));have GW588:=Aside0.mk ((by rw [hg];exact (Qp (by repeat (first|(with_reducible first|exact HB.out|apply Qo|apply Qq|apply Qy|refine Q4 ?_ GE587.out)|exact HB.out))):w.heap.size≤gb588));have GE588:=GW588;replace HB:=Aside0.mk (Qa (by repeat (first|(with_reducible first|exact HB.out|apply Qo|apply Qq|apply Qy|refine Q4 ?_ GE587.out)|exact HB.out)) hb);have NB587_588:=Aside0.mk ((by rw [hg];exact Nat.ne_of_lt (Qcc (g:=gb587) (o:= .cells #[.slice none 0 0] 26 (0,0)) (by (with_reducible repeat (first|refine Qk ?_ _|refine Qj ?_|refine Qi ?_ _));exact BK587.out)):gb587≠gb588));have NB588_587:=Aside0.mk ((by rw [hg];exact Nat.ne_of_gt (Qcc (g:=gb587) (o:= .cells #[.slice none 0 0] 26 (0,0)) (by (with_reducible repeat (first|refine Qk ?_ _|refine Qj ?_|refine Qi ?_ _));exact BK587.out)):gb588≠gb587));replace BK587:=Aside0.mk (Qc (g:=gb587) (o:= .cells #[.slice none 0 0] 26 (0,0)) (by (with_reducible repeat (first|refine Qk ?_ _|refine Qj ?_|refine Qi ?_ _));exact BK587.out) hb);clear hb hbox hg)|((with_reducible refine Qdp (f:=161) rfl ?_);refine Qeu (some 11) rfl rfl Tryz.func161 (by kernel_rfl) rfl #[.pointer (some ⟨gb588,0,none⟩), .int .i64 4] rfl (by (try simp only [List.map_toArray,List.map_cons,List.map_nil]);first|done|rfl|(simp only [List.length_drop,List.length_take];rfl)) ?_;(with_reducible refine (Qcv.calls gb588 l0 0 0 4 false t590 t591 w _ ?side1 ?side2 A2.out).mono ?_);(case side1=>repeat (first|(with_reducible first|exact HI588.out|apply Qb.alloc|apply Qb.drewN|apply Qb.drew|apply Qb.set_1|apply Qb.set_2|refine Qb.far ?_ NB588_587.out _)|exact HI588.out));(case side2=>repeat (first|(with_reducible first|exact HB.out|apply Qo|apply Qq|apply Qy|refine Q4 ?_ (Qb.ge HI588.out)|refine Q4 ?_ GE587.out)|exact HB.out));rintro e w23 ⟨rfl,hi,hb,hk⟩;refine ⟨_,rfl,?_⟩;replace BK587:=Aside0.mk (Qg.blk hk (g':=gb587) (o:= .cells #[.slice none 0 0] 26 (0,0)) (by (with_reducible repeat (first|refine Qk ?_ _|refine Qj ?_|refine Qi ?_ _));exact BK587.out) NB587_588.out (by simp));replace HB:=Aside0.mk (hb);replace HI588:=Aside0.mk (hi);(try clear hb);(try clear hb2);(try clear hk);(try clear hi))|((with_reducible refine Qdp (f:=164) rfl ?_);refine Qeu (some 31) rfl rfl Tryz.func164 (by kernel_rfl) rfl #[.pointer (some ⟨gb588,0,none⟩), .int .i64 10] rfl (by (try simp only [List.map_toArray,List.map_cons,List.map_nil]);first|done|rfl|(simp only [List.length_drop,List.length_take];rfl)) ?_;(with_reducible refine (Q0.calls k gb588 l0 t590 t591 10 t604 t607 t608 w _ ?side1 ?side2 A20.out).mono ?_);(case side1=>repeat (first|(with_reducible first|exact HI588.out|apply Qb.alloc|apply Qb.drewN|apply Qb.drew|apply Qb.set_1|apply Qb.set_2|refine Qb.far ?_ NB588_587.out _)|exact HI588.out));(case side2=>repeat (first|(with_reducible first|exact HB.out|apply Qo|apply Qq|apply Qy|refine Q4 ?_ (Qb.ge HI588.out)|refine Q4 ?_ GE587.out)|exact HB.out));rintro e w24 ⟨v605,rfl,ho0,hi,hb,hk⟩;refine ⟨_,rfl,?_⟩;replace BK587:=Aside0.mk (Qg.blk hk (g':=gb587) (o:= .cells #[.slice none 0 0] 26 (0,0)) (by (with_reducible repeat (first|refine Qk ?_ _|refine Qj ?_|refine Qi ?_ _));exact BK587.out) NB587_588.out (by simp));have HO606:=Aside0.mk (Kd.R_lower ho0 (Qp (by repeat (first|(with_reducible first|exact HB.out|apply Qo|apply Qq|apply Qy|refine Q4 ?_ (Qb.ge HI588.out)|refine Q4 ?_ GE587.out)|exact HB.out))));replace HB:=Aside0.mk (hb);replace HI588:=Aside0.mk (hi);(try clear hb);(try clear hb2);(try clear hk);(try clear hi);(try clear ho0);obtain ⟨Ao25,co25,eo25⟩:=Kd.R_slice HO606.out;subst eo25;have hnb26:=NB587_588.out;have hnc26:=NB588_587.out;have hcz27_0:w24.cell? ⟨gb587,0,none⟩=some (.slice none 0 0):=(Qci BK587.out 0).trans rfl;have hfz27_0:=Qf BK587.out 0))
  refine bodyPost_ret (results_cell_row rfl _ _ gb587 26 #[.slice Ao25 t604.length co25] (0,0) _ rfl (by (with_reducible repeat (first|refine Qk ?_ _|refine Qj ?_|refine Qi ?_ _));refine Qcs (cs:= #[.slice none 0 0]) ?_ 0 _ rfl;(with_reducible repeat (first|refine Qk ?_ _|refine Qj ?_|refine Qi ?_ _));exact BK587.out) Tryz.underlying26 rfl (by kernel_rfl)) rfl ?_;exact ⟨_,by first|rfl|(simp [Qd,Qe] <;>rfl)|(simp [*,Qd,Qe] <;>rfl),by (with_reducible repeat (first|apply Kd.R_alloc|apply Kd.R_drewN|apply Kd.R_drew));exact Kd.R_mono (Kd.R_far (p:=⟨gb587,0,none⟩) (Kd.R_types HO606.out BK587.out (by decide)) (fun _ hk=>hk.2) (.slice Ao25 t604.length co25)) (fun _ hk=>trivial),(Qb.vB HB)⟩
def Qdc.f (k : Nat) (l0_0 : List Int) : Option (List Int × Bool) := (Qcp.f k l0_0).bind fun t610 => (if t610 = true then ((Qcg.f k l0_0).bind fun t611 => ((Qba.f k t611).bind fun t612 => (if (t612.length : Int) > 40 then (some (([] : List Int), false)) else (some (t612, true))))) else (some (([] : List Int), false)))
theorem Qdc.mono : ∀ a0 k, LeO (Qdc.f k a0) (Qdc.f (k + 1) a0) := by
 intro a0 k;unfold Qdc.f
 repeat' (with_reducible first|apply Qcg.mono|apply Qcp.mono|apply Qba.mono|exact LeO.refl _|exact LeO.none _|refine LeO.ite ?_ ?_|refine LeO.bind ?_ (fun _=> ?_))
set_option maxHeartbeats 8000000 in
set_option maxRecDepth 100000 in
theorem Qdc.calls (k : Nat) (A0_0 : Option Addr) (c0_0 : Nat) (l0_0 : List Int) (r1 : List Int) (r2 : Bool) (w : World) (hr0_0 : Kd.C (Kd.int .i64) w A0_0 l0_0.length l0_0) (hc0_0 : l0_0.length ≤ c0_0) (h : Qdc.f k l0_0 = some (r1, r2)) :
 Calls Tryz.prog 20 #[.agg #[.slice A0_0 l0_0.length c0_0]] w fun e w'=> ∃ v0_:Value,e= .returned (.tuple #[v0_, .bool r2])∧Kd.R (Kd.int .i64) 3 w' w.heap.size (fun _=>True) v0_ r1∧Below w.heap.size w w':=by
 have hu26:=Tryz.underlying26;have HR0_0:=Aside0.mk hr0_0;have HC0_0:=Aside0.mk hc0_0;clear hr0_0 hc0_0;have HB:=Aside0.mk (Below.refl w.heap.size w);have H:((Qcp.f k l0_0).bind fun t610=>(if t610=true then ((Qcg.f k l0_0).bind fun t611=>((Qba.f k t611).bind fun t612=>(if (t612.length:Int)>40 then (some (([] :List Int),false)) else (some (t612,true))))) else (some (([] :List Int),false))))=some (r1,r2):=h;clear h;obtain ⟨t610,A2,H⟩:=bs H;(try dsimp only at H)
 by_cases c3:t610=true
 ·
  subst c3;rw [if_pos rfl] at H;obtain ⟨t611,A4,H⟩:=bs H;(try dsimp only at H)
  obtain ⟨t612,A5,H⟩:=bs H;(try dsimp only at H)
  by_cases c6:(t612.length:Int)>40
  ·
   rw [if_pos c6] at H;have c6b0:=decide_eq_true c6;have c6b1:decide (40<t612.length)=true:=decide_eq_true (by omega);clear c6;simp only [Option.some.injEq,Prod.mk.injEq] at H;obtain ⟨rfl,rfl⟩:=H;go_enter Tryz.func20,Tryz.ntmps20;go_wp2_with (first|(refine bE (N:=1) (cs:= #[.slice A0_0 l0_0.length c0_0]) (t:=26) ?_;intro gb609 hg w7 hbox hb;have BK609:=Aside0.mk (hbox);have GW609:=Aside0.mk ((gV hg (uB HB)));have GE609:=GW609;replace HB:=Aside0.mk (Qa (uB HB) hb);clear hb hbox hg;have hcz8_0:=bC BK609;have hfz8_0:=Qf BK609.out 0)|(refine gA (some 6) Tryz.func156 #[.agg #[.slice A0_0 l0_0.length c0_0]] ?_;(with_reducible refine (Qcp.calls k _ _ l0_0 true _ (uD HR0_0 HB) HC0_0.out A2.out).mono ?_);rintro e w9 ⟨rfl,hb⟩;refine ⟨_,rfl,?_⟩;replace BK609:=Aside0.mk (Qc (uK BK609) hb);replace HB:=Aside0.mk (Qa (uB HB) hb);(try clear hb);have hcz10_0:=bC BK609;have hfz10_0:=Qf BK609.out 0)|(refine gA (some 9) Tryz.func151 #[.agg #[.slice A0_0 l0_0.length c0_0]] ?_;(with_reducible refine (Qcg.calls k _ _ l0_0 t611 _ (uD HR0_0 HB) HC0_0.out A4.out).mono ?_);rintro e w11 ⟨rfl,hb⟩;refine ⟨_,rfl,?_⟩;replace BK609:=Aside0.mk (Qc (uK BK609) hb);replace HB:=Aside0.mk (Qa (uB HB) hb);(try clear hb))|(refine gA (some 10) Tryz.func150 #[.int .i64 t611] ?_;(with_reducible refine (Qba.calls k t611 t612 _ A5.out).mono ?_);rintro e w12 ⟨v613,rfl,ho0,hb⟩;refine ⟨_,rfl,?_⟩;have HO614:=Aside0.mk (Kd.R_lower ho0 (Qp (uB HB)));replace BK609:=Aside0.mk (Qc (uK BK609) hb);replace HB:=Aside0.mk (Qa (uB HB) hb);(try clear hb ho0);obtain ⟨Ao13,co13,eo13⟩:=Kd.R_slice HO614.out;subst eo13))
   go_ret2
   exact ⟨_,by first|rfl|(simp [Qd,Qe] <;>rfl)|(simp [*,Qd,Qe] <;>rfl),by first|exact Kd.R_nil _ _ _ _ _|exact Kd.N_nil _ _ _ _ _|exact Kd.V_nil _ _ _ _ _|exact Kd.Q_nil _ _ _ _ _|exact Kd.S_nil _ _ _ _ _,uB HB⟩
  ·
   rw [if_neg c6] at H;have c6b0:=decide_eq_false c6;have c6b1:decide (40<t612.length)=false:=decide_eq_false (by omega);clear c6;simp only [Option.some.injEq,Prod.mk.injEq] at H;obtain ⟨rfl,rfl⟩:=H;go_enter Tryz.func20,Tryz.ntmps20;go_wp2_with (first|(refine bE (N:=1) (cs:= #[.slice A0_0 l0_0.length c0_0]) (t:=26) ?_;intro gb609 hg w14 hbox hb;have BK609:=Aside0.mk (hbox);have GW609:=Aside0.mk ((gV hg (uB HB)));have GE609:=GW609;replace HB:=Aside0.mk (Qa (uB HB) hb);clear hb hbox hg;have hcz15_0:=bC BK609;have hfz15_0:=Qf BK609.out 0)|(refine gA (some 6) Tryz.func156 #[.agg #[.slice A0_0 l0_0.length c0_0]] ?_;(with_reducible refine (Qcp.calls k _ _ l0_0 true _ (uD HR0_0 HB) HC0_0.out A2.out).mono ?_);rintro e w16 ⟨rfl,hb⟩;refine ⟨_,rfl,?_⟩;replace BK609:=Aside0.mk (Qc (uK BK609) hb);replace HB:=Aside0.mk (Qa (uB HB) hb);(try clear hb);have hcz17_0:=bC BK609;have hfz17_0:=Qf BK609.out 0)|(refine gA (some 9) Tryz.func151 #[.agg #[.slice A0_0 l0_0.length c0_0]] ?_;(with_reducible refine (Qcg.calls k _ _ l0_0 t611 _ (uD HR0_0 HB) HC0_0.out A4.out).mono ?_);rintro e w18 ⟨rfl,hb⟩;refine ⟨_,rfl,?_⟩;replace BK609:=Aside0.mk (Qc (uK BK609) hb);replace HB:=Aside0.mk (Qa (uB HB) hb);(try clear hb))|(refine gA (some 10) Tryz.func150 #[.int .i64 t611] ?_;(with_reducible refine (Qba.calls k t611 t612 _ A5.out).mono ?_);rintro e w19 ⟨v613,rfl,ho0,hb⟩;refine ⟨_,rfl,?_⟩;have HO614:=Aside0.mk (Kd.R_lower ho0 (Qp (uB HB)));replace BK609:=Aside0.mk (Qc (uK BK609) hb);replace HB:=Aside0.mk (Qa (uB HB) hb);(try clear hb ho0);obtain ⟨Ao20,co20,eo20⟩:=Kd.R_slice HO614.out;subst eo20))
   go_ret2
   exact ⟨_,by first|rfl|(simp [Qd,Qe] <;>rfl)|(simp [*,Qd,Qe] <;>rfl),uR HO614,uB HB⟩
 ·
  replace c3:=Bool.eq_false_iff.mpr c3;subst c3;rw [if_neg (show ¬ (false=true) by decide)] at H;simp only [Option.some.injEq,Prod.mk.injEq] at H;obtain ⟨rfl,rfl⟩:=H;go_enter Tryz.func20,Tryz.ntmps20;go_wp2_with (first|(refine bE (N:=1) (cs:= #[.slice A0_0 l0_0.length c0_0]) (t:=26) ?_;intro gb609 hg w21 hbox hb;have BK609:=Aside0.mk (hbox);have GW609:=Aside0.mk ((gV hg (uB HB)));have GE609:=GW609;replace HB:=Aside0.mk (Qa (uB HB) hb);clear hb hbox hg;have hcz22_0:=bC BK609;have hfz22_0:=Qf BK609.out 0)|(refine gA (some 6) Tryz.func156 #[.agg #[.slice A0_0 l0_0.length c0_0]] ?_;(with_reducible refine (Qcp.calls k _ _ l0_0 false _ (uD HR0_0 HB) HC0_0.out A2.out).mono ?_);rintro e w23 ⟨rfl,hb⟩;refine ⟨_,rfl,?_⟩;replace BK609:=Aside0.mk (Qc (uK BK609) hb);replace HB:=Aside0.mk (Qa (uB HB) hb);(try clear hb)))
  go_ret2
  exact ⟨_,by first|rfl|(simp [Qd,Qe] <;>rfl)|(simp [*,Qd,Qe] <;>rfl),by first|exact Kd.R_nil _ _ _ _ _|exact Kd.N_nil _ _ _ _ _|exact Kd.V_nil _ _ _ _ _|exact Kd.Q_nil _ _ _ _ _|exact Kd.S_nil _ _ _ _ _,uB HB⟩
def Qdd.f (k : Nat) (l0_0 : List Int) : Option (List Int × Bool) := (Qc2.f k l0_0).bind fun t616 => (if t616 = true then ((Qbi.f k l0_0).bind fun t617 => (if (t617.length : Int) > 40 then (some (([] : List Int), false)) else (some (t617, true)))) else (some (([] : List Int), false)))
theorem Qdd.mono : ∀ a0 k, LeO (Qdd.f k a0) (Qdd.f (k + 1) a0) := by
 intro a0 k;unfold Qdd.f
 repeat' (with_reducible first|apply Qc2.mono|apply Qbi.mono|exact LeO.refl _|exact LeO.none _|refine LeO.ite ?_ ?_|refine LeO.bind ?_ (fun _=> ?_))
set_option maxHeartbeats 8000000 in
set_option maxRecDepth 100000 in
theorem Qdd.calls (k : Nat) (A0_0 : Option Addr) (c0_0 : Nat) (l0_0 : List Int) (r1 : List Int) (r2 : Bool) (w : World) (hr0_0 : Kd.C (Kd.int .i64) w A0_0 l0_0.length l0_0) (hc0_0 : l0_0.length ≤ c0_0) (h : Qdd.f k l0_0 = some (r1, r2)) :
 Calls Tryz.prog 21 #[.agg #[.slice A0_0 l0_0.length c0_0]] w fun e w'=> ∃ v0_:Value,e= .returned (.tuple #[v0_, .bool r2])∧Kd.R (Kd.int .i64) 3 w' w.heap.size (fun _=>True) v0_ r1∧Below w.heap.size w w':=by
 have hu26:=Tryz.underlying26;have HR0_0:=Aside0.mk hr0_0;have HC0_0:=Aside0.mk hc0_0;clear hr0_0 hc0_0;have HB:=Aside0.mk (Below.refl w.heap.size w);have H:((Qc2.f k l0_0).bind fun t616=>(if t616=true then ((Qbi.f k l0_0).bind fun t617=>(if (t617.length:Int)>40 then (some (([] :List Int),false)) else (some (t617,true)))) else (some (([] :List Int),false))))=some (r1,r2):=h;clear h;obtain ⟨t616,A2,H⟩:=bs H;(try dsimp only at H)
 by_cases c3:t616=true
 ·
  subst c3;rw [if_pos rfl] at H;obtain ⟨t617,A4,H⟩:=bs H;(try dsimp only at H)
  by_cases c5:(t617.length:Int)>40
  ·
   rw [if_pos c5] at H;have c5b0:=decide_eq_true c5;have c5b1:decide (40<t617.length)=true:=decide_eq_true (by omega);clear c5;simp only [Option.some.injEq,Prod.mk.injEq] at H;obtain ⟨rfl,rfl⟩:=H;go_enter Tryz.func21,Tryz.ntmps21;go_wp2_with (first|(refine bE (N:=1) (cs:= #[.slice A0_0 l0_0.length c0_0]) (t:=26) ?_;intro gb615 hg w6 hbox hb;have BK615:=Aside0.mk (hbox);have GW615:=Aside0.mk ((gV hg (uB HB)));have GE615:=GW615;replace HB:=Aside0.mk (Qa (uB HB) hb);clear hb hbox hg;have hcz7_0:=bC BK615;have hfz7_0:=Qf BK615.out 0)|(refine gA (some 6) Tryz.func165 #[.agg #[.slice A0_0 l0_0.length c0_0]] ?_;(with_reducible refine (Qc2.calls k _ _ l0_0 true _ (uD HR0_0 HB) HC0_0.out A2.out).mono ?_);rintro e w8 ⟨rfl,hb⟩;refine ⟨_,rfl,?_⟩;replace BK615:=Aside0.mk (Qc (uK BK615) hb);replace HB:=Aside0.mk (Qa (uB HB) hb);(try clear hb);have hcz9_0:=bC BK615;have hfz9_0:=Qf BK615.out 0)|(refine gA (some 9) Tryz.func154 #[.agg #[.slice A0_0 l0_0.length c0_0]] ?_;(with_reducible refine (Qbi.calls k _ _ l0_0 t617 _ (uD HR0_0 HB) HC0_0.out A4.out).mono ?_);rintro e w10 ⟨v618,rfl,ho0,hb⟩;refine ⟨_,rfl,?_⟩;have HO619:=Aside0.mk (Kd.R_lower ho0 (Qp (uB HB)));replace BK615:=Aside0.mk (Qc (uK BK615) hb);replace HB:=Aside0.mk (Qa (uB HB) hb);(try clear hb ho0);obtain ⟨Ao11,co11,eo11⟩:=Kd.R_slice HO619.out;subst eo11))
   go_ret2
   exact ⟨_,by first|rfl|(simp [Qd,Qe] <;>rfl)|(simp [*,Qd,Qe] <;>rfl),by first|exact Kd.R_nil _ _ _ _ _|exact Kd.N_nil _ _ _ _ _|exact Kd.V_nil _ _ _ _ _|exact Kd.Q_nil _ _ _ _ _|exact Kd.S_nil _ _ _ _ _,uB HB⟩
  ·
   rw [if_neg c5] at H;have c5b0:=decide_eq_false c5;have c5b1:decide (40<t617.length)=false:=decide_eq_false (by omega);clear c5;simp only [Option.some.injEq,Prod.mk.injEq] at H;obtain ⟨rfl,rfl⟩:=H;go_enter Tryz.func21,Tryz.ntmps21;go_wp2_with (first|(refine bE (N:=1) (cs:= #[.slice A0_0 l0_0.length c0_0]) (t:=26) ?_;intro gb615 hg w12 hbox hb;have BK615:=Aside0.mk (hbox);have GW615:=Aside0.mk ((gV hg (uB HB)));have GE615:=GW615;replace HB:=Aside0.mk (Qa (uB HB) hb);clear hb hbox hg;have hcz13_0:=bC BK615;have hfz13_0:=Qf BK615.out 0)|(refine gA (some 6) Tryz.func165 #[.agg #[.slice A0_0 l0_0.length c0_0]] ?_;(with_reducible refine (Qc2.calls k _ _ l0_0 true _ (uD HR0_0 HB) HC0_0.out A2.out).mono ?_);rintro e w14 ⟨rfl,hb⟩;refine ⟨_,rfl,?_⟩;replace BK615:=Aside0.mk (Qc (uK BK615) hb);replace HB:=Aside0.mk (Qa (uB HB) hb);(try clear hb);have hcz15_0:=bC BK615;have hfz15_0:=Qf BK615.out 0)|(refine gA (some 9) Tryz.func154 #[.agg #[.slice A0_0 l0_0.length c0_0]] ?_;(with_reducible refine (Qbi.calls k _ _ l0_0 t617 _ (uD HR0_0 HB) HC0_0.out A4.out).mono ?_);rintro e w16 ⟨v618,rfl,ho0,hb⟩;refine ⟨_,rfl,?_⟩;have HO619:=Aside0.mk (Kd.R_lower ho0 (Qp (uB HB)));replace BK615:=Aside0.mk (Qc (uK BK615) hb);replace HB:=Aside0.mk (Qa (uB HB) hb);(try clear hb ho0);obtain ⟨Ao17,co17,eo17⟩:=Kd.R_slice HO619.out;subst eo17))
   go_ret2
   exact ⟨_,by first|rfl|(simp [Qd,Qe] <;>rfl)|(simp [*,Qd,Qe] <;>rfl),uR HO619,uB HB⟩
 ·
  replace c3:=Bool.eq_false_iff.mpr c3;subst c3;rw [if_neg (show ¬ (false=true) by decide)] at H;simp only [Option.some.injEq,Prod.mk.injEq] at H;obtain ⟨rfl,rfl⟩:=H;go_enter Tryz.func21,Tryz.ntmps21;go_wp2_with (first|(refine bE (N:=1) (cs:= #[.slice A0_0 l0_0.length c0_0]) (t:=26) ?_;intro gb615 hg w18 hbox hb;have BK615:=Aside0.mk (hbox);have GW615:=Aside0.mk ((gV hg (uB HB)));have GE615:=GW615;replace HB:=Aside0.mk (Qa (uB HB) hb);clear hb hbox hg;have hcz19_0:=bC BK615;have hfz19_0:=Qf BK615.out 0)|(refine gA (some 6) Tryz.func165 #[.agg #[.slice A0_0 l0_0.length c0_0]] ?_;(with_reducible refine (Qc2.calls k _ _ l0_0 false _ (uD HR0_0 HB) HC0_0.out A2.out).mono ?_);rintro e w20 ⟨rfl,hb⟩;refine ⟨_,rfl,?_⟩;replace BK615:=Aside0.mk (Qc (uK BK615) hb);replace HB:=Aside0.mk (Qa (uB HB) hb);(try clear hb)))
  go_ret2
  exact ⟨_,by first|rfl|(simp [Qd,Qe] <;>rfl)|(simp [*,Qd,Qe] <;>rfl),by first|exact Kd.R_nil _ _ _ _ _|exact Kd.N_nil _ _ _ _ _|exact Kd.V_nil _ _ _ _ _|exact Kd.Q_nil _ _ _ _ _|exact Kd.S_nil _ _ _ _ _,uB HB⟩
end Go.Proofs.YtkgngggppcmpfaaGreat.L
end
section
namespace Go.Proofs.YtkgngggppcmpfaaGreat.L
open Go.RowKit Go.Proofs.YtkgngggppcmpfaaGreatW.PrintWords Go.Proofs.YtkgngggppcmpfaaGreatW.PrintLast Go.Proofs.YtkgngggppcmpfaaGreatW.PrintMore
attribute [local go_sem] Qt Qv Q2 Q3 Qm Qn Qu Qw
set_option linter.unusedVariables false
set_option linter.unusedSimpArgs false
def Qcw.l0 : Nat → List Int → List Int → Int → Int → Option (Bool)
 |0,_,_,_,_=>none
 |k+1,x0,x1,x12,x13=>if x13<x12 then (if 0≤x13 then (if x13<(x0.length:Int) then (if x13<(x1.length:Int) then (if (rd x0 x13)=(rd x1 x13) then (Qcw.l0 k x0 x1 x12 (wrap64 (x13+1))) else (some false)) else (none)) else (none)) else (none)) else (some true)
def Qcw.f (k : Nat) (l0 : List Int) (l1 : List Int) : Option (Bool) := if (l0.length : Int) = (l1.length : Int) then (Qcw.l0 k l0 l1 (l0.length : Int) 0) else (some false)
theorem Qcw.mono_l : ∀ k, (∀ y0 y1 y2 y3, LeO (Qcw.l0 k y0 y1 y2 y3) (Qcw.l0 (k + 1) y0 y1 y2 y3))
 |0=>fun _ _ _ _ r h=>by simp [Qcw.l0] at h
 |k+1=>by
  have ih0:=Qcw.mono_l k
  ·
   intro y0 y1 y2 y3;unfold Qcw.l0
   repeat' first
   |(with_reducible exact ih0 _ _ _ _)
   |(with_reducible exact LeO.refl _)
   |(with_reducible exact LeO.none _)
   |(with_reducible refine LeO.ite ?_ ?_)
   |(with_reducible refine LeO.bind ?_ (fun _=> ?_))
   |exact ih0 _ _ _ _
   |exact LeO.none _
   |refine LeO.ite ?_ ?_
   |refine LeO.bind ?_ (fun _=> ?_)
theorem Qcw.mono : ∀ a0 a1 k, LeO (Qcw.f k a0 a1) (Qcw.f (k + 1) a0 a1) := by
 intro a0 a1 k;have ih0:=Qcw.mono_l k;unfold Qcw.f
 repeat' (with_reducible first|apply ih0|exact LeO.refl _|exact LeO.none _|refine LeO.ite ?_ ?_|refine LeO.bind ?_ (fun _=> ?_))
set_option maxHeartbeats 8000000 in
set_option maxRecDepth 100000 in
theorem Qcw.calls (k : Nat) (A0 : Option Addr) (c0 : Nat) (l0 : List Int) (A1 : Option Addr) (c1 : Nat) (l1 : List Int) (r : Bool) (w : World) (hr0 : Kd.C (Kd.int .i64) w A0 l0.length l0) (hc0 : l0.length ≤ c0) (hr1 : Kd.C (Kd.int .i64) w A1 l1.length l1) (hc1 : l1.length ≤ c1) (h : Qcw.f k l0 l1 = some r) :
 Calls Tryz.prog 22 #[.slice A0 l0.length c0, .slice A1 l1.length c1] w fun e w'=>e= .returned (.bool r)∧Drawn0 w w':=by
 have HR0:=Aside0.mk hr0;have HC0:=Aside0.mk hc0;clear hr0 hc0;have HR1:=Aside0.mk hr1;have HC1:=Aside0.mk hc1;clear hr1 hc1;have H:(if (l0.length:Int)=(l1.length:Int) then (Qcw.l0 k l0 l1 (l0.length:Int) 0) else (some false))=some r:=h;clear h
 by_cases c3:(l0.length:Int)=(l1.length:Int)
 ·
  rw [if_pos c3] at H;have c3b0:((l0.length:Int)==(l1.length:Int))=true:=beq_iff_eq.mpr c3;have c3b1:((l0.length:Int) !=(l1.length:Int))=false:=bne_eq_false_iff_eq.mpr c3;have c3b2:(l0.length==l1.length)=true:=by first|simpa using c3|(simp at c3 ⊢;omega)
  clear c3;have H':=Aside0.mk H;clear H;go_enter Tryz.func22,Tryz.ntmps22;go_wp2
  repeat (go_quiet (fail);try go_wp2)
  go_loopg [13] k (fun kq v13 w'=> ∃ (x13_1:Int),v13= .int .i64 x13_1∧Aside0 (Qcw.l0 kq l0 l1 (l0.length:Int) x13_1=some r)∧Aside0 (kq≤k)∧Drawn0 w w')
  case atStart=>exact ⟨(0),(by first|rfl|(simp;done)|(simp [*];done)),H',⟨Nat.le_refl _⟩,by repeat (first|exact Drawn0.refl _|apply Drawn0.step)⟩
  case round=>
   clear H'
   try clear c1
   try clear c2
   try clear p2
   try clear c3
   try clear c3b0
   try clear c3b1
   try clear c3b2
   obtain ⟨x13_1,rfl,HA,HK1,⟨m1,rfl⟩⟩:=hrel;cases gk with
   |zero=>exact absurd HA.out (by simp [Qcw.l0])
   |succ k1=>
    have H:=HA.out;clear HA;simp only [Qcw.l0] at H
    by_cases c4:x13_1<(l0.length:Int)
    ·
     rw [if_pos c4] at H;have c4b0:=decide_eq_true c4;clear c4
     by_cases c5:0≤x13_1
     ·
      rw [if_pos c5] at H;have c5b0:=decide_eq_true c5;clear c5
      by_cases c6:x13_1<(l0.length:Int)
      ·
       rw [if_pos c6] at H;have c6b0:=decide_eq_true c6;clear c6
       by_cases c7:x13_1<(l1.length:Int)
       ·
        rw [if_pos c7] at H;have c7b0:=decide_eq_true c7;clear c7
        by_cases c8:(rd l0 x13_1)=(rd l1 x13_1)
        ·
         rw [if_pos c8] at H;have c8b0:((rd l0 x13_1)==(rd l1 x13_1))=true:=beq_iff_eq.mpr c8;have c8b1:((rd l0 x13_1) !=(rd l1 x13_1))=false:=bne_eq_false_iff_eq.mpr c8;clear c8;have H':=Aside0.mk H;clear H;have p620:0≤(x13_1:Int):=of_decide_eq_true (by first|(with_reducible assumption)|assumption);have q620:x13_1<(l0.length:Int):=of_decide_eq_true (by first|(with_reducible assumption)|assumption);obtain ⟨ad620,e620,hx620_0⟩:=Kd.at_int HR0.out x13_1 p620 q620;cases e620;replace p620:=eq_true p620;replace q620:=eq_true q620;have p621:0≤(x13_1:Int):=of_decide_eq_true (by first|(with_reducible assumption)|assumption);have q621:x13_1<(l1.length:Int):=of_decide_eq_true (by first|(with_reducible assumption)|assumption);obtain ⟨ad621,e621,hx621_0⟩:=Kd.at_int HR1.out x13_1 p621 q621;cases e621;replace p621:=eq_true p621;replace q621:=eq_true q621;go_wp2
         repeat (go_quiet (fail);try go_wp2)
         go_roundg k1
         case measure=>have:=HK1.out;omega
         case rel=>exact ⟨(wrap64 (x13_1+1)),(by first|rfl|(simp;done)|(simp [*];done)),H',⟨by have:=HK1.out;omega⟩,by repeat (first|exact Drawn0.refl _|apply Drawn0.step)⟩
        ·
         rw [if_neg c8] at H;have c8b0:((rd l0 x13_1)==(rd l1 x13_1))=false:=beq_eq_false_iff_ne.mpr c8;have c8b1:((rd l0 x13_1) !=(rd l1 x13_1))=true:=bne_iff_ne.mpr c8;obtain rfl:=Option.some.inj H;have p620:0≤(x13_1:Int):=of_decide_eq_true (by first|(with_reducible assumption)|assumption);have q620:x13_1<(l0.length:Int):=of_decide_eq_true (by first|(with_reducible assumption)|assumption);obtain ⟨ad620,e620,hx620_0⟩:=Kd.at_int HR0.out x13_1 p620 q620;cases e620;replace p620:=eq_true p620;replace q620:=eq_true q620;have p621:0≤(x13_1:Int):=of_decide_eq_true (by first|(with_reducible assumption)|assumption);have q621:x13_1<(l1.length:Int):=of_decide_eq_true (by first|(with_reducible assumption)|assumption);obtain ⟨ad621,e621,hx621_0⟩:=Kd.at_int HR1.out x13_1 p621 q621;cases e621;replace p621:=eq_true p621;replace q621:=eq_true q621;go_wp2
         repeat (go_quiet (fail);try go_wp2)
         go_ret
         exact ⟨by first|rfl|(simp;done)|(simp [*];done),by repeat (first|exact Drawn0.refl _|apply Drawn0.step)⟩
       ·
        rw [if_neg c7] at H;exact absurd H (by simp)
      ·
       rw [if_neg c6] at H;exact absurd H (by simp)
     ·
      rw [if_neg c5] at H;exact absurd H (by simp)
    ·
     rw [if_neg c4] at H;have c4b0:=decide_eq_false c4;clear c4;obtain rfl:=Option.some.inj H;go_wp2
     repeat (go_quiet (fail);try go_wp2)
     go_ret
     exact ⟨by first|rfl|(simp;done)|(simp [*];done),by repeat (first|exact Drawn0.refl _|apply Drawn0.step)⟩
 ·
  rw [if_neg c3] at H;have c3b0:((l0.length:Int)==(l1.length:Int))=false:=beq_eq_false_iff_ne.mpr c3;have c3b1:((l0.length:Int) !=(l1.length:Int))=true:=bne_iff_ne.mpr c3;have c3b2:(l0.length==l1.length)=false:=by first|simpa using c3|(simp at c3 ⊢;omega)
  obtain rfl:=Option.some.inj H;go_enter Tryz.func22,Tryz.ntmps22;go_wp2
  repeat (go_quiet (fail);try go_wp2)
  go_ret
  exact ⟨by first|rfl|(simp;done)|(simp [*];done),by repeat (first|exact Drawn0.refl _|apply Drawn0.step)⟩
open Go.Proofs.YtkgngggppcmpfaaGreat.X in
set_option maxHeartbeats 400000 in
set_option maxRecDepth 100000 in
theorem Qhx.calls (A0 : Option Addr) (c0 : Nat) (l0 : List Int) (g : Nat) (lb : Array Value) (p : Int → Bool) (w : World) (eg : ∀ args w, (callFunc g args).run Tryz.prog w = .ok (.enter g args) w)
 (hr0:Kd.C (Kd.int .i64) w A0 l0.length l0) (hl:l0.length≤9223372036854775806) (hp: ∀ x,x ∈ l0→Fv Tryz.prog g lb #[.int .i64 x] (.bool (p x)) w):
 Calls Tryz.prog 287 #[.slice A0 l0.length c0, .func (.func g) #[] lb] w fun e w'=>e= .returned (.int .i64 (Qj5 p l0))∧Below w.heap.size w w':=by
 have HR0:=Aside0.mk hr0;have HP:=Aside0.mk hp;clear hr0 hp;go_enter Tryz.func287,Tryz.ntmps287;go_wp2
 go_loopw [8] (fun v8 wr=> ∃ k:Nat,k≤l0.length∧v8= .int .i64 k∧Aside0 (Qj5 p l0=Qfh p (l0.drop k) k)∧Aside0 (Below w.heap.size w wr)) (fun v8 _=>l0.length - (intOf v8).toNat)
 case atStart=>exact ⟨0,Nat.zero_le _,rfl,⟨rfl⟩,⟨Below.refl _ _⟩⟩
 case round=>
  obtain ⟨k,hk,rfl,HI,HB⟩:=hrel
  by_cases hlt:k<l0.length
  ·
   have hdrop:l0.drop k=l0[k] ::l0.drop (k+1):=(List.drop_eq_getElem_cons hlt)
   have hrd:rd l0 (k:Int)=l0[k] :=by simp [rd,List.getD_eq_getElem?_getD,hlt]
   have hmem:l0[k] ∈ l0:=List.getElem_mem hlt;have hfv:=HP.out _ hmem;rw [←hrd] at hfv;have hI3:=Aside0.mk (show Qj5 p l0=if p (rd l0 (k:Int)) then (k:Int) else Qfh p (l0.drop (k+1)) (k+1) by rw [hrd,HI.out,hdrop,Qfh]);have HF:=Aside0.mk hfv;clear hfv hdrop hrd HI hmem;have p1:0≤((k:Nat):Int):=by omega
   have q1:((k:Nat):Int)<(l0.length:Int):=by omega
   obtain ⟨ad,e1,hx⟩:=Kd.at_int (Kd.C_below HR0.out HB.out) k p1 q1;rw [Int.toNat_natCast] at hx;cases e1
   by_cases hp:p (rd l0 (k:Int))=true
   all_goals
    have hP:=Aside0.mk hp;go_wp2_with (go_at_fn g;(with_reducible refine (Fv.calls HF.out HB.out).mono ?_);rintro e w2 ⟨rfl,hb⟩)
    first|go_ret|go_roundw
   ·
    exact ⟨by rw [hI3.out,if_pos hP.out];rfl,Qdj HB.out hb⟩
   case rel=>exact ⟨k+1,by omega,by go_num,⟨by rw [hI3.out,if_neg hP.out]⟩,⟨Qdj HB.out hb⟩⟩
   case measure=>simp [intOf];omega
  ·
   go_wp2
   go_ret
   exact ⟨by rw [HI.out,List.drop_of_length_le (by omega)];rfl,HB.out⟩
open Go.Proofs.YtkgngggppcmpfaaGreat.X in
set_option maxHeartbeats 400000 in
set_option maxRecDepth 100000 in
theorem Qgx.calls (A0 : Option Addr) (c0 : Nat) (l0 : List Int) (g : Nat) (lb : Array Value) (p : Int → Bool) (w : World) (eg : ∀ args w, (callFunc g args).run Tryz.prog w = .ok (.enter g args) w)
 (hr0:Kd.C (Kd.int .i64) w A0 l0.length l0) (hl:l0.length≤9223372036854775806) (hp: ∀ x,x ∈ l0→Fv Tryz.prog g lb #[.int .i64 x] (.bool (p x)) w):
 Calls Tryz.prog 166 #[.slice A0 l0.length c0, .func (.func g) #[] lb] w fun e w'=>e= .returned (.bool (l0.any p))∧Below w.heap.size w w':=by
 have EG:=Aside0.mk eg;have HR0:=Aside0.mk hr0;have HP:=Aside0.mk hp;clear hr0 hp eg;go_enter Tryz.func166,Tryz.ntmps166;go_wp2_with (go_at_call 287;(with_reducible refine (Qhx.calls _ _ l0 g lb p _ EG.out HR0.out hl HP.out).mono ?_);rintro e w2 ⟨rfl,hb⟩)
 go_ret
 refine ⟨?_,hb⟩;have:=Qki p l0 0;unfold Qj5
 by_cases h:l0.any p=true
 ·
  rw [h] at this ⊢;simp [this.mpr rfl]
 ·
  have h2: ¬ (0≤Qfh p l0 0):=fun z=>h (this.mp z)
  simp [Bool.eq_false_iff.mpr h,h2]
def Qce.p (rk : List Int) (e : Int) : Bool := !(decide (0 ≤ e) && decide (e ≤ wrap64 ((rk.length : Int) - 1)))
def Qce.f (k : Nat) (l0_0 : List Int) (a1 : Int) (l2 : List Int) : Option (Int × Bool) := (Qb6.f k l0_0 a1).bind fun t => if t = true then (if (l2.length : Int) > 40 then some (0, false) else (Q6.f k l0_0).bind fun rk => if l2.any (Qce.p rk) = true then some (0, false) else (Ql.f k l0_0 a1 l2).bind fun x => some (x, true)) else some (0, false)
theorem Qce.mono : ∀ a0 a1 a2 k, LeO (Qce.f k a0 a1 a2) (Qce.f (k + 1) a0 a1 a2) := by
 intro a0 a1 a2 k;unfold Qce.f;exact LeO.bind (Qb6.mono _ _ _) (fun t=>LeO.ite (LeO.ite (LeO.refl _) (LeO.bind (Q6.mono _ _) (fun rk=>LeO.ite (LeO.refl _) (LeO.bind (Ql.mono _ _ _ _) (fun x=>LeO.refl _))))) (LeO.refl _))
open Go.Proofs.YtkgngggppcmpfaaGreat.X in
set_option maxHeartbeats 1000000 in
set_option maxRecDepth 100000 in
theorem Qce.lit (k : Nat) (A0 : Option Addr) (c0 : Nat) (l0 : List Int) (rk : List Int) (n : Int) (B : Nat) (w : World) (hr0 : Kd.C (Kd.int .i64) w A0 l0.length l0) (hc0 : l0.length ≤ c0) (hk : Q6.f k l0 = some rk) (hB : B < w.heap.size) (hc : w.cell? ⟨B, 0, none⟩ = some (.slice A0 l0.length c0)) :
 Fv Tryz.prog 167 #[.pointer (some ⟨B,0,none⟩)] #[.int .i64 n] (.bool (Qce.p rk n)) w:=by
 intro W hb;have hc':W.cell? ⟨B,0,none⟩=some (.slice A0 l0.length c0):=(hb.cell (p:=⟨B,0,none⟩) hB).trans hc;obtain ⟨b,HW,hp⟩: ∃ b,Qc9.f n 0 (wrap64 ((rk.length:Int) - 1))=some b∧Qce.p rk n= !b:=⟨decide (0≤n) && decide (n≤wrap64 ((rk.length:Int) - 1)),by unfold Qc9.f;by_cases h:0≤n<;>simp [h],rfl⟩
 rw [hp];have HA:=Aside0.mk HW;have HR:=Aside0.mk (Kd.C_below hr0 hb);have HC:=Aside0.mk hc0;have HK:=Aside0.mk hk;clear HW hp hr0 hb hc hc0 hk;have hu:=Tryz.underlying26;go_enter Tryz.func167,Tryz.ntmps167;go_wp2_with fail;refine (Q6.calls k _ _ l0 rk _ HR.out HC.out HK.out).mono ?_;rintro e w1 ⟨v0,rfl,hR,hb⟩;obtain ⟨Ao,co,rfl,hl,hC⟩:=Kd.R_reads hR;have B1:=Aside0.mk hb;clear hR hl hC hb;go_wp2_with fail;refine (Qc9.calls n 0 (wrap64 ((rk.length:Int) - 1)) b _ HA.out).mono ?_;rintro e w2 ⟨rfl,⟨nd,rfl⟩⟩;go_wp2
 go_ret
 exact ⟨rfl,Qq B1.out _⟩
open Go.Proofs.YtkgngggppcmpfaaGreat.X in
set_option maxHeartbeats 1600000 in
set_option maxRecDepth 100000 in
theorem Qce.calls (k : Nat) (A0_0 : Option Addr) (c0_0 : Nat) (l0_0 : List Int) (a1 : Int) (A2 : Option Addr) (c2 : Nat) (l2 : List Int) (r1 : Int) (r2 : Bool) (w : World) (hr0_0 : Kd.C (Kd.int .i64) w A0_0 l0_0.length l0_0) (hc0_0 : l0_0.length ≤ c0_0) (hr2 : Kd.C (Kd.int .i64) w A2 l2.length l2) (hc2 : l2.length ≤ c2) (h : Qce.f k l0_0 a1 l2 = some (r1, r2)) :
 Calls Tryz.prog 23 #[.agg #[.slice A0_0 l0_0.length c0_0], .int .i64 a1, .slice A2 l2.length c2] w fun e w'=>e= .returned (.tuple #[.int .i64 r1, .bool r2])∧Below w.heap.size w w':=by
 have HR:=Aside0.mk hr0_0;have HC:=Aside0.mk hc0_0;have HR2:=Aside0.mk hr2;have HC2:=Aside0.mk hc2;clear hr0_0 hc0_0 hr2 hc2;unfold Qce.f at h;obtain ⟨t,ht,h⟩:=Option.bind_eq_some_iff.mp h;have HT:=Aside0.mk ht;clear ht;have hu:=Tryz.underlying26;cases t with
 |false=>
  have h':some ((0:Int),false)=some (r1,r2):=h;injection h' with h'
  injection h' with h1 h2
  subst h1 h2;clear h;go_enter Tryz.func23,Tryz.ntmps23;go_wp2_with (go_at_call 148;(with_reducible refine (Qb6.calls k _ _ l0_0 a1 false _ (Kd.C_below HR.out (Qo (Below.refl _ _) _)) HC.out HT.out).mono ?_);rintro e w1 ⟨rfl,hb⟩)
  go_ret2
  exact ⟨rfl,Qdj (Qo (Below.refl _ _) _) hb⟩
 |true=>
  rw [if_pos rfl] at h
  by_cases hm:(l2.length:Int)>40
  ·
   rw [if_pos hm] at h;injection h with h
   injection h with h1 h2
   subst h1 h2;have hm1:decide ((l2.length:Int)>40)=true:=decide_eq_true hm;have hm2:decide ((40:Int)<(l2.length:Int))=true:=decide_eq_true hm;clear hm;go_enter Tryz.func23,Tryz.ntmps23;go_wp2_with (go_at_call 148;(with_reducible refine (Qb6.calls k _ _ l0_0 a1 true _ (Kd.C_below HR.out (Qo (Below.refl _ _) _)) HC.out HT.out).mono ?_);rintro e w1 ⟨rfl,hb⟩)
   go_ret2
   exact ⟨rfl,Qdj (Qo (Below.refl _ _) _) hb⟩
  ·
   rw [if_neg hm] at h;obtain ⟨rk,hrk,h⟩:=Option.bind_eq_some_iff.mp h;have HK:=Aside0.mk hrk;have HL:=Aside0.mk (show l2.length≤9223372036854775806 by omega);clear hrk;have hm1:decide ((l2.length:Int)>40)=false:=decide_eq_false hm;have hm2:decide ((40:Int)<(l2.length:Int))=false:=decide_eq_false hm;clear hm;obtain ⟨an,han⟩: ∃ an,an=l2.any (Qce.p rk):=⟨_,rfl⟩
   have AN:=Aside0.mk han;rw [←han] at h;clear han;cases an with
   |true=>
    rw [if_pos rfl] at h;injection h with h
    injection h with h1 h2
    subst h1 h2;go_enter Tryz.func23,Tryz.ntmps23;go_wp2_with fail;refine (Qb6.calls k _ _ l0_0 a1 true _ (Kd.C_below HR.out (Qo (Below.refl _ _) _)) HC.out HT.out).mono ?_;rintro e w1 ⟨rfl,hb⟩;have b1:=Qdj (Qo (Below.refl w.heap.size w) (.cells #[.slice A0_0 l0_0.length c0_0] 26)) hb;have z1:=Aside0.mk (show w.heap.size<w1.heap.size by have:=hb.size;simp at this;omega);have c1:=Aside0.mk (show w1.cell? ⟨w.heap.size,0,none⟩=some (.slice A0_0 l0_0.length c0_0) from (hb.cell (p:=⟨w.heap.size,0,none⟩) (by simp)).trans (by simp));have B1:=Aside0.mk b1;clear hb b1;go_wp2_with fail;refine (Qgx.calls A2 c2 l2 167 #[.pointer (some ⟨w.heap.size,0,none⟩)] (Qce.p rk) _ (Qgl Tryz.func167 (by kernel_rfl) rfl) (Kd.C_below HR2.out B1.out) HL.out (fun x _=>Qce.lit k A0_0 c0_0 l0_0 rk x _ _ (Kd.C_below HR.out B1.out) HC.out HK.out z1.out c1.out)).mono ?_;rintro e w2 ⟨rfl,hb⟩;rw [←AN.out];have B2:=Aside0.mk (Qdj B1.out hb);clear hb;go_wp2
    go_ret2
    exact ⟨rfl,B2.out⟩
   |false=>
    rw [if_neg (by simp)] at h;obtain ⟨x,hx,h⟩:=Option.bind_eq_some_iff.mp h;injection h with h
    injection h with h1 h2
    subst h1 h2;have HX:=Aside0.mk hx;clear hx;go_enter Tryz.func23,Tryz.ntmps23;go_wp2_with fail;refine (Qb6.calls k _ _ l0_0 a1 true _ (Kd.C_below HR.out (Qo (Below.refl _ _) _)) HC.out HT.out).mono ?_;rintro e w1 ⟨rfl,hb⟩;have b1:=Qdj (Qo (Below.refl w.heap.size w) (.cells #[.slice A0_0 l0_0.length c0_0] 26)) hb;have z1:=Aside0.mk (show w.heap.size<w1.heap.size by have:=hb.size;simp at this;omega);have cc1:w1.cell? ⟨w.heap.size,0,none⟩=some (.slice A0_0 l0_0.length c0_0):=(hb.cell (p:=⟨w.heap.size,0,none⟩) (by simp)).trans (by simp);have c1:=Aside0.mk cc1;have B1:=Aside0.mk b1;clear hb b1 cc1;go_wp2_with fail;refine (Qgx.calls A2 c2 l2 167 #[.pointer (some ⟨w.heap.size,0,none⟩)] (Qce.p rk) _ (Qgl Tryz.func167 (by kernel_rfl) rfl) (Kd.C_below HR2.out B1.out) HL.out (fun x _=>Qce.lit k A0_0 c0_0 l0_0 rk x _ _ (Kd.C_below HR.out B1.out) HC.out HK.out z1.out c1.out)).mono ?_;rintro e w2 ⟨rfl,hb⟩;rw [←AN.out];have B2:=Aside0.mk (Qdj B1.out hb);have cc2:w2.cell? ⟨w.heap.size,0,none⟩=some (.slice A0_0 l0_0.length c0_0):=(hb.cell (p:=⟨w.heap.size,0,none⟩) z1.out).trans c1.out;clear hb;go_wp2_with fail;refine (Ql.calls k _ _ l0_0 a1 _ _ l2 x _ (Kd.C_below HR.out B2.out) HC.out (Kd.C_below HR2.out B2.out) HC2.out HX.out).mono ?_;rintro e w3 ⟨rfl,hb⟩;have B3:=Aside0.mk (Qdj B2.out hb);clear hb;go_wp2
    go_ret2
    exact ⟨rfl,B3.out⟩
end Go.Proofs.YtkgngggppcmpfaaGreat.L
end
section
namespace Go.Proofs.YtkgngggppcmpfaaGreat.L
open Go.RowKit Go.Proofs.YtkgngggppcmpfaaGreatW.PrintWords Go.Proofs.YtkgngggppcmpfaaGreatW.PrintLast Go.Proofs.YtkgngggppcmpfaaGreatW.PrintMore Go.Proofs.YtkgngggppcmpfaaGreat.X
attribute [local go_sem] Qt Qv Q2 Q3 Qm Qn Qu Qw
set_option linter.unusedVariables false
set_option linter.unusedSimpArgs false
def Qct.f (k : Nat) (l0 : List Int) : Option (List Int) := (Q0.f k l0 0 0 7).bind fun bt624 => (some bt624.1)
theorem Qct.mono : ∀ a0 k, LeO (Qct.f k a0) (Qct.f (k + 1) a0) := by
 intro a0 k;unfold Qct.f
 repeat' (with_reducible first|apply Q0.mono|exact LeO.refl _|exact LeO.none _|refine LeO.ite ?_ ?_|refine LeO.bind ?_ (fun _=> ?_))
set_option maxHeartbeats 8000000 in
set_option maxRecDepth 100000 in
theorem Qct.calls (k : Nat) (A0 : Option Addr) (c0 : Nat) (l0 : List Int) (r : List Int) (w : World) (hr0 : Kd.C (Kd.int .u8) w A0 l0.length l0) (hc0 : l0.length ≤ c0) (h : Qct.f k l0 = some r) :
 Calls Tryz.prog 24 #[.slice A0 l0.length c0] w fun e w'=> ∃ v0_:Value,e= .returned (.agg #[v0_])∧Kd.R (Kd.int .i64) 3 w' w.heap.size (fun _=>True) v0_ r∧Below w.heap.size w w':=by
 have hu26:=Tryz.underlying26;have hu94:=Tryz.underlying94;have HR0:=Aside0.mk hr0;have HC0:=Aside0.mk hc0;clear hr0 hc0;have HB:=Aside0.mk (Below.refl w.heap.size w);have H:((Q0.f k l0 0 0 7).bind fun bt624=>(some bt624.1))=some r:=h;clear h;obtain ⟨⟨t624,t627,t628⟩,A2,H⟩:=bs H;(try dsimp only at H)
 obtain rfl:=Option.some.inj H;go_enter Tryz.func24,Tryz.ntmps24;go_wp2_with (first|((with_reducible refine Qc0 (N:=2) rfl ?_);refine Qe3 ?hg (N:=2) ?hd (cs:= #[.slice none 0 0]) (t:=26) ?hr ?_;(case hd=>rfl);(case hg=>rfl);(case hr=>first|(go_simp;done)|(go_simp;rfl));intro gb622 hg w3 hbox hb;have BK622:=Aside0.mk (hbox);have GW622:=Aside0.mk ((by rw [hg];exact (Qp (by repeat (first|(with_reducible first|exact HB.out|apply Qo|apply Qq|apply Qy)|exact HB.out))):w.heap.size≤gb622));have GE622:=GW622;replace HB:=Aside0.mk (Qa (by repeat (first|(with_reducible first|exact HB.out|apply Qo|apply Qq|apply Qy)|exact HB.out)) hb);clear hb hbox hg)|((with_reducible refine Qc0 (N:=6) rfl ?_);refine Qe3 ?hg (N:=6) ?hd (cs:= #[.slice A0 l0.length c0, .int .i64 0, .int .u64 0]) (t:=94) ?hr ?_;(case hd=>rfl);(case hg=>rfl);(case hr=>first|(go_simp;done)|(go_simp;rfl));intro gb623 hg w4 hbox hb;have HI623:=Aside0.mk ((⟨_,_,hbox,(by rw [hg];exact (Qp (by repeat (first|(with_reducible first|exact HB.out|apply Qo|apply Qq|apply Qy|refine Q4 ?_ GE622.out)|exact HB.out))):w.heap.size≤gb623),HR0.out⟩:Qb w _ gb623 l0 0 0));have GW623:=Aside0.mk ((by rw [hg];exact (Qp (by repeat (first|(with_reducible first|exact HB.out|apply Qo|apply Qq|apply Qy|refine Q4 ?_ GE622.out)|exact HB.out))):w.heap.size≤gb623));have GE623:=GW623;replace HB:=Aside0.mk (Qa (by repeat (first|(with_reducible first|exact HB.out|apply Qo|apply Qq|apply Qy|refine Q4 ?_ GE622.out)|exact HB.out)) hb);have NB622_623:=Aside0.mk ((by rw [hg];exact Nat.ne_of_lt (Qcc (g:=gb622) (o:= .cells #[.slice none 0 0] 26 (0,0)) (by (with_reducible repeat (first|refine Qk ?_ _|refine Qj ?_|refine Qi ?_ _));exact BK622.out)):gb622≠gb623));have NB623_622:=Aside0.mk ((by rw [hg];exact Nat.ne_of_gt (Qcc (g:=gb622) (o:= .cells #[.slice none 0 0] 26 (0,0)) (by (with_reducible repeat (first|refine Qk ?_ _|refine Qj ?_|refine Qi ?_ _));exact BK622.out)):gb623≠gb622));replace BK622:=Aside0.mk (Qc (g:=gb622) (o:= .cells #[.slice none 0 0] 26 (0,0)) (by (with_reducible repeat (first|refine Qk ?_ _|refine Qj ?_|refine Qi ?_ _));exact BK622.out) hb);clear hb hbox hg)|((with_reducible refine Qdp (f:=164) rfl ?_);refine Qeu (some 8) rfl rfl Tryz.func164 (by kernel_rfl) rfl #[.pointer (some ⟨gb623,0,none⟩), .int .i64 7] rfl (by (try simp only [List.map_toArray,List.map_cons,List.map_nil]);first|done|rfl|(simp only [List.length_drop,List.length_take];rfl)) ?_;(with_reducible refine (Q0.calls k gb623 l0 0 0 7 t624 t627 t628 w _ ?side1 ?side2 A2.out).mono ?_);(case side1=>repeat (first|(with_reducible first|exact HI623.out|apply Qb.alloc|apply Qb.drewN|apply Qb.drew|apply Qb.set_1|apply Qb.set_2|refine Qb.far ?_ NB623_622.out _)|exact HI623.out));(case side2=>repeat (first|(with_reducible first|exact HB.out|apply Qo|apply Qq|apply Qy|refine Q4 ?_ (Qb.ge HI623.out)|refine Q4 ?_ GE622.out)|exact HB.out));rintro e w5 ⟨v625,rfl,ho0,hi,hb,hk⟩;refine ⟨_,rfl,?_⟩;replace BK622:=Aside0.mk (Qg.blk hk (g':=gb622) (o:= .cells #[.slice none 0 0] 26 (0,0)) (by (with_reducible repeat (first|refine Qk ?_ _|refine Qj ?_|refine Qi ?_ _));exact BK622.out) NB622_623.out (by simp));have HO626:=Aside0.mk (Kd.R_lower ho0 (Qp (by repeat (first|(with_reducible first|exact HB.out|apply Qo|apply Qq|apply Qy|refine Q4 ?_ (Qb.ge HI623.out)|refine Q4 ?_ GE622.out)|exact HB.out))));replace HB:=Aside0.mk (hb);replace HI623:=Aside0.mk (hi);(try clear hb);(try clear hb2);(try clear hk);(try clear hi);(try clear ho0);obtain ⟨Ao6,co6,eo6⟩:=Kd.R_slice HO626.out;subst eo6;have hnb7:=NB622_623.out;have hnc7:=NB623_622.out;have hcz8_0:w5.cell? ⟨gb622,0,none⟩=some (.slice none 0 0):=(Qci BK622.out 0).trans rfl;have hfz8_0:=Qf BK622.out 0));refine bodyPost_ret (results_cell_row rfl _ _ gb622 26 #[.slice Ao6 t624.length co6] (0,0) _ rfl (by (with_reducible repeat (first|refine Qk ?_ _|refine Qj ?_|refine Qi ?_ _));refine Qcs (cs:= #[.slice none 0 0]) ?_ 0 _ rfl;(with_reducible repeat (first|refine Qk ?_ _|refine Qj ?_|refine Qi ?_ _));exact BK622.out) Tryz.underlying26 rfl (by kernel_rfl)) rfl ?_;exact ⟨_,by first|rfl|(simp [Qd,Qe] <;>rfl)|(simp [*,Qd,Qe] <;>rfl),by (with_reducible repeat (first|apply Kd.R_alloc|apply Kd.R_drewN|apply Kd.R_drew));exact Kd.R_mono (Kd.R_far (p:=⟨gb622,0,none⟩) (Kd.R_types HO626.out BK622.out (by decide)) (fun _ hk=>hk.2) (.slice Ao6 t624.length co6)) (fun _ hk=>trivial),(Qb.vB HB)⟩
end Go.Proofs.YtkgngggppcmpfaaGreat.L
end
section
namespace Go.Proofs.YtkgngggppcmpfaaGreat.L
open Go.RowKit Go.Proofs.YtkgngggppcmpfaaGreatW.PrintWords Go.Proofs.YtkgngggppcmpfaaGreatW.PrintLast Go.Proofs.YtkgngggppcmpfaaGreatW.PrintMore
attribute [local go_sem] Qt Qv Q2 Q3 Qm Qn Qu Qw
set_option linter.unusedVariables false
set_option linter.unusedSimpArgs false
open Go.Proofs.YtkgngggppcmpfaaGreat.X in
theorem Qdl.idx_spec (p : Int → Bool) : ∀ (l : List Int) (i : Nat), (Qfh p l i = -1 ∧ l.filter (fun x => !p x) = l) ∨ ∃ k, k < l.length ∧ Qfh p l i = ((i + k : Nat) : Int) ∧ (l.take (k + 1)).filter (fun x => !p x) = l.take k
 | [],i=> .inl ⟨rfl,rfl⟩
 |x::l,i=>by
  unfold Qfh
  by_cases h:p x=true
  ·
   rw [if_pos h];exact .inr ⟨0,by simp,by simp,by simp [h]⟩
  ·
   rw [if_neg h];have h':p x=false:=by simpa using h
   rcases Qdl.idx_spec p l (i+1) with ⟨e1,e2⟩|⟨k,hk,e1,e2⟩
   ·
    exact .inl ⟨e1,by rw [List.filter_cons,h'];simp [e2]⟩
   ·
    refine .inr ⟨k+1,by simpa using hk,by rw [e1];congr 1;omega,?_⟩;rw [List.take_succ_cons,List.filter_cons,h',List.take_succ_cons,e2];simp
theorem Qdl.below_cells {B : Nat} {a : World} (b : Nat) (hb : B ≤ b) : ∀ (vs : List Value) (o : Nat) {w : World}, Below B a w → Below B a (w.setCells b o vs)
 | [],_,_,h=>h
 |v::r,o,_,h=>Qdl.below_cells b hb r (o+1) (h.setCell (p:=⟨b,o,none⟩) hb v)
theorem Qdl.cleared {g c base e : Nat} {ok : Nat → Prop} (i : Nat) : ∀ (m o : Nat) (w : World) (xs : List Int), (Kd.int .i64).R e w base ok (.slice (some ⟨g, 0, none⟩) xs.length c) xs → i ≤ o →
 ∃ ys:List Int,(Kd.int .i64).R e (w.setCells g o (List.replicate m (.int .i64 0))) base ok (.slice (some ⟨g,0,none⟩) ys.length c) ys∧ys.take i=xs.take i∧ys.length=xs.length
 |0,o,w,xs,h,hi=>⟨xs,h,rfl,rfl⟩
 |m+1,o,w,xs,h,hi=>by
  have h1:=(Kd.R_putn h (o:Int) (0:Int))
  rw [Int.toNat_natCast] at h1;have h2:(Kd.int .i64).R e (w.setCell ⟨g,o,none⟩ (.int .i64 0)) base ok (.slice (some ⟨g,0,none⟩) (xs.set o 0).length c) (xs.set o 0):=by rw [List.length_set];exact h1
  obtain ⟨ys,y1,y2,y3⟩:=Qdl.cleared i m (o+1) _ _ h2 (by omega);exact ⟨ys,y1,by rw [y2,List.take_set_of_le hi],by rw [y3,List.length_set]⟩
theorem Qdl.keep {l dk : List Int} {p : Int → Bool} {i j : Nat} (hi : i < j) (hj : j < l.length) (hlen : dk.length = l.length) (h1 : dk.take i = (l.take j).filter (fun x => !p x)) (h2 : dk.drop j = l.drop j) :
 rd dk (j:Int)=l[j] ∧(p l[j] =true→dk.take i=(l.take (j+1)).filter (fun x=> !p x))∧dk.drop (j+1)=l.drop (j+1)∧
 (p l[j] =false→(dk.set i l[j]).take (i+1)=(l.take (j+1)).filter (fun x=> !p x))∧(dk.set i l[j]).drop (j+1)=l.drop (j+1):=by
 have e0:dk[j]? =l[j]? :=by
  have:=congrArg (fun x=>x[0]?) h2
  simpa using this
 have e1:dk.drop (j+1)=l.drop (j+1):=by
  have:=congrArg (List.drop 1) h2
  rwa [List.drop_drop,List.drop_drop] at this
 refine ⟨?_,fun hp=> ?_,e1,fun hp=> ?_,?_⟩
 ·
  rw [List.getElem?_eq_getElem hj] at e0;simp [rd,List.getD_eq_getElem?_getD,e0]
 ·
  rw [List.take_succ_eq_append_getElem hj,List.filter_append,h1];simp [hp]
 ·
  rw [List.take_succ_eq_append_getElem hj,List.filter_append,←h1,List.take_set,List.take_succ_eq_append_getElem (show i<dk.length by omega)];have e2:(dk.take i).length=i:=by rw [List.length_take];omega
  rw [List.set_append_right _ _ (by omega),e2,Nat.sub_self];simp [hp]
 ·
  rw [List.drop_set_of_lt (by omega),e1]
open Go.Proofs.YtkgngggppcmpfaaGreat.X in
set_option maxHeartbeats 1600000 in
set_option maxRecDepth 100000 in
theorem Qdl.calls (v : Value) (l : List Int) (gF : Nat) (lbF : Array Value) (p : Int → Bool) (w0 w : World) (eg : ∀ args w, (callFunc gF args).run Tryz.prog w = .ok (.enter gF args) w) (hb : Below w0.heap.size w0 w)
 (hr:Kd.R (Kd.int .i64) 3 w w0.heap.size (fun _=>True) v l) (hl:l.length≤9223372036854775806) (hp: ∀ x,x ∈ l→Fv Tryz.prog gF lbF #[.int .i64 x] (.bool (p x)) w0):
 Calls Tryz.prog 168 #[v, .func (.func gF) #[] lbF] w fun e w'=> ∃ v0_:Value,e= .returned v0_∧Kd.R (Kd.int .i64) 3 w' w0.heap.size (fun _=>True) v0_ (l.filter fun x=> !p x)∧Below w0.heap.size w0 w':=by
 obtain ⟨A0,c0,rfl,hlc,hC⟩:=Kd.R_reads hr;have EG:=Aside0.mk eg;have HR:=Aside0.mk hr;have HP:=Aside0.mk hp;have HB0:=Aside0.mk hb;have HCC:=Aside0.mk hC;have HL:=Aside0.mk hl;have HCap:=Aside0.mk hlc;clear hr hp hb hC hl hlc;go_enter Tryz.func168,Tryz.ntmps168;go_wp2_with fail;refine (Qhx.calls A0 c0 l gF lbF p _ EG.out HCC.out HL.out (fun x hx=>(HP.out x hx).later HB0.out)).mono ?_;rintro e w1 ⟨rfl,hb⟩;have B1:=Aside0.mk (Qdj HB0.out hb);have R1:=Aside0.mk (Kd.R_below HR.out hb);clear hb HR HCC HB0;have hs:=Qdl.idx_spec p l 0;have hs:(Qj5 p l= -1∧l.filter (fun x=> !p x)=l)∨ ∃ k,k<l.length∧Qj5 p l=(k:Int)∧(l.take (k+1)).filter (fun x=> !p x)=l.take k:=by
  rcases hs with h|⟨k,h1,h2,h3⟩
  ·
   exact .inl h
  ·
   exact .inr ⟨k,h1,by rw [Nat.zero_add] at h2;exact h2,h3⟩
 rcases hs with ⟨e1,e2⟩|⟨k0,hk0,e1,e2⟩
 ·
  rw [e1];have E2:=Aside0.mk e2;clear e1 e2;go_wp2
  go_ret
  exact ⟨_,rfl,by rw [E2.out];exact R1.out,B1.out⟩
 ·
  rw [e1];have E2:=Aside0.mk e2;have hne:((k0:Int)== -1)=false:=beq_eq_false_iff_ne.2 (by omega);obtain ⟨k1,hk1⟩: ∃ k1,k1=k0+1:=⟨_,rfl⟩
  have e3:wrap64 ((k0:Int)+1)=(k1:Int):=by have:=HL.out;unfold wrap64;omega
  rw [←hk1] at E2;have HK1:=Aside0.mk hk1;clear hk1;obtain ⟨g,c1,eo,gb,gl,cl,hg⟩:=Kd.R_form R1.out (by omega);cases eo;have GB:=Aside0.mk gb;clear e1 e2 gb gl hg;go_wp2
  (try simp only [e3])
  clear e3 hne
  go_loopw [5,6] (fun v5 v6 wr=> ∃ (i j:Nat) (dk:List Int),v5= .int .i64 i∧v6= .int .i64 j∧i<j∧j≤l.length∧Aside0 (dk.length=l.length∧dk.take i=(l.take j).filter (fun x=> !p x)∧dk.drop j=l.drop j)∧Aside0 (Kd.R (Kd.int .i64) 3 wr w0.heap.size (fun _=>True) (.slice (some ⟨g,0,none⟩) l.length c0) dk)∧Aside0 (Below w0.heap.size w0 wr)) (fun _ v6 _=>l.length - (intOf v6).toNat)
  case atStart=>exact ⟨k0,k1,l,rfl,by first|rfl|go_num,by have:=HK1.out;omega,by have:=HK1.out;omega,⟨rfl,E2.out.symm,rfl⟩,R1,B1⟩
  case round=>
   obtain ⟨i,j,dk,rfl,rfl,hij,hjl,HI,HR,HB⟩:=hrel
   by_cases hlt:j<l.length
   ·
    obtain ⟨k1,k2,k3,k4,k5⟩:=Qdl.keep hij hlt HI.out.1 HI.out.2.1 HI.out.2.2;obtain ⟨hx,_⟩:=Kd.R_celln (0:Int) HR.out (j:Int) (by omega) (by omega);have hx:wr.cell? ⟨g,j,none⟩=some (.int .i64 l[j]):=by rw [Int.toNat_natCast] at hx;rw [hx,←k1];rfl
    have e2:wrap64 ((j:Int)+1)=((j+1:Nat):Int):=by have:=HL.out;unfold wrap64;omega
    have e3:wrap64 ((i:Int)+1)=((i+1:Nat):Int):=by have:=HL.out;unfold wrap64;omega
    have HF:=Aside0.mk (HP.out _ (List.getElem_mem hlt));have K2:=Aside0.mk k2;have K3:=Aside0.mk k3;have K4:=Aside0.mk k4;have K5:=Aside0.mk k5;clear k1 k2 k3 k4 k5;obtain ⟨u,hu⟩: ∃ u,u=l[j] :=⟨_,rfl⟩
    rw [←hu] at hx HF K2 K4 K5;clear hu;cases hq:p u with
    |true=>
     rw [hq] at HF;have HQ:=Aside0.mk hq;clear hq;go_wp2_with (go_at_fn gF;(with_reducible refine (Fv.calls HF.out HB.out).mono ?_);rintro e w2 ⟨rfl,hb⟩);go_roundw
     case rel=>exact ⟨i,j+1,dk,rfl,by first|rfl|go_num,by omega,by omega,⟨HI.out.1,K2.out HQ.out,K3.out⟩,⟨Kd.R_below HR.out hb⟩,⟨Qdj HB.out hb⟩⟩
     case measure=>(try simp only [e2]);exact (Nat.sub_lt_sub_left (by omega) (Nat.lt_succ_self j):l.length - (j+1)<l.length - j)
    |false=>
     rw [hq] at HF;have HQ:=Aside0.mk hq;clear hq;have hi1:(i:Int)<(l.length:Int):=by omega
     have hi0:0≤(i:Int):=by omega
     go_wp2_with (go_at_fn gF;(with_reducible refine (Fv.calls HF.out HB.out).mono ?_);rintro e w2 ⟨rfl,hb⟩;have R2:=Aside0.mk (Kd.R_below HR.out hb);have B2:=Aside0.mk (Qdj HB.out hb);obtain ⟨hy,hz⟩:=Kd.R_celln (0:Int) R2.out (i:Int) (by omega) (by omega);rw [Int.toNat_natCast] at hy hz;clear hb);go_roundw
     case rel=>
      have P2:=Kd.R_putg R2.out (i:Int) u;rw [Int.toNat_natCast] at P2;exact ⟨i+1,j+1,dk.set i u,by first|rfl|go_num,by first|rfl|go_num,by omega,by omega,⟨by rw [List.length_set];exact HI.out.1,K4.out HQ.out,K5.out⟩,⟨P2.1⟩,⟨Q4 B2.out GB.out⟩⟩
     case measure=>(try simp only [e2]);exact (Nat.sub_lt_sub_left (by omega) (Nat.lt_succ_self j):l.length - (j+1)<l.length - j)
   ·
    have hj:j=l.length:=by omega
    subst hj;obtain ⟨h1,h2,h3⟩:=HI.out;rw [List.take_of_length_le (Nat.le_refl _)] at h2;have hin:i≤dk.length:=by omega
    obtain ⟨ys,y1,y2,y3⟩:=Qdl.cleared (g:=g) (c:=c0) i (l.length - i) i wr dk (by rw [h1];exact HR.out) (Nat.le_refl _);have Y1:=Aside0.mk (Kd.R_take y1 (show i≤ys.length by omega));have Y2:=Aside0.mk (show (l.filter fun x=> !p x)=ys.take i by rw [y2,h2]);have Y3:=Aside0.mk (Qdl.below_cells g GB.out (List.replicate (l.length - i) (.int .i64 0)) i HB.out);have hcl: ∀ ty,(Builtin.clear_ #[24] ty #[.slice (some ⟨g,i,none⟩) (l.length - i) (c0 - i)]).run Tryz.prog wr= .ok (.tuple #[]) (wr.setCells g i (List.replicate (l.length - i) (.int .i64 0))):=
     fun ty=>Lib.run_clear_slice wr 24 3 ty (.int .i64 0) Tryz.underlying24 (fun w=>by kernel_rfl) rfl rfl g i _ _ (by omega)
      (fun t ht=>by obtain ⟨hx,_⟩:=Kd.R_celln (0:Int) HR.out ((i+t:Nat):Int) (by omega) (by omega);rw [Int.toNat_natCast] at hx;rw [hx];rfl)
      (fun t ht=>by obtain ⟨_,hx⟩:=Kd.R_celln (0:Int) HR.out ((i+t:Nat):Int) (by omega) (by omega);rw [Int.toNat_natCast] at hx;exact hx)
    have q1:(i:Int)<(l.length:Int):=by omega
    have q2:(i:Int)≤(l.length:Int):=by omega
    have q3:(l.length:Int)≤(c0:Int):=by have:=HCap.out;omega
    have q4:(i:Int)≤(c0:Int):=by omega
    clear y1 y2 y3 h1 h2 h3;go_wp2
    go_ret
    exact ⟨_,rfl,by rw [Y2.out];exact Y1.out,Y3.out⟩
class Fn1 where
 p:Int→Option Bool
def Qgw.f [Fn1] (a0 : Int) : Option Bool := Fn1.p a0
end Go.Proofs.YtkgngggppcmpfaaGreat.L
end
section
namespace Go.Proofs.YtkgngggppcmpfaaGreat.L
open Go.RowKit Go.Proofs.YtkgngggppcmpfaaGreatW.PrintWords Go.Proofs.YtkgngggppcmpfaaGreatW.PrintLast Go.Proofs.YtkgngggppcmpfaaGreatW.PrintMore Go.Proofs.YtkgngggppcmpfaaGreat.X
attribute [local go_sem] Qt Qv Q2 Q3 Qm Qn Qu Qw
set_option linter.unusedVariables false
variable [Fn1]
set_option linter.unusedSimpArgs false
def Qbx.l0 : Nat → List Int → Int → Int → Option (List Int)
 |0,_,_,_=>none
 |k+1,x5,x10,x11=>if x11<x10 then ((Qgw.f x11).bind fun t634=>(if t634=true then (if x5.length<17592186044416 then (Qbx.l0 k (x5++ [x11]) x10 (wrap64 (x11+1))) else (none)) else (Qbx.l0 k x5 x10 (wrap64 (x11+1))))) else (some x5)
def Qbx.f (k : Nat) (l0_0 : List Int) (a1 : Int) : Option (List Int) := (Qda.f l0_0).bind fun t633 => (Qbx.l0 k (([] : List Int)) (wrap64 (t633 + 1)) 0)
theorem Qbx.mono_l : ∀ k, (∀ y0 y1 y2, LeO (Qbx.l0 k y0 y1 y2) (Qbx.l0 (k + 1) y0 y1 y2))
 |0=>fun _ _ _ r h=>by simp [Qbx.l0] at h
 |k+1=>by
  have ih0:=Qbx.mono_l k
  ·
   intro y0 y1 y2;unfold Qbx.l0
   repeat' first
   |(with_reducible exact ih0 _ _ _)
   |(with_reducible exact LeO.refl _)
   |(with_reducible exact LeO.none _)
   |(with_reducible refine LeO.ite ?_ ?_)
   |(with_reducible refine LeO.bind ?_ (fun _=> ?_))
   |exact ih0 _ _ _
   |exact LeO.none _
   |refine LeO.ite ?_ ?_
   |refine LeO.bind ?_ (fun _=> ?_)
theorem Qbx.mono : ∀ a0 a1 k, LeO (Qbx.f k a0 a1) (Qbx.f (k + 1) a0 a1) := by
 intro a0 a1 k;have ih0:=Qbx.mono_l k;unfold Qbx.f
 repeat' first
  |(with_reducible exact ih0 _ _ _)
  |(with_reducible exact LeO.refl _)
  |(with_reducible exact LeO.none _)
  |(with_reducible refine LeO.ite ?_ ?_)
  |(with_reducible refine LeO.bind ?_ (fun _=> ?_))
  |exact ih0 _ _ _
  |exact LeO.none _
  |refine LeO.ite ?_ ?_
  |refine LeO.bind ?_ (fun _=> ?_)
set_option maxHeartbeats 8000000 in
set_option maxRecDepth 100000 in
open Go.Proofs.YtkgngggppcmpfaaGreat.X in
theorem Qbx.calls (gF : Nat) (lbF : Array Value) (eg : ∀ args w, (callFunc gF args).run Tryz.prog w = .ok (.enter gF args) w) (k : Nat) (A0_0 : Option Addr) (c0_0 : Nat) (l0_0 : List Int) (a1 : Int) (r : List Int) (w : World) (hr0_0 : Kd.C (Kd.int .i64) w A0_0 l0_0.length l0_0) (hc0_0 : l0_0.length ≤ c0_0) (hpF : ∀ x0_ b, Qgw.f x0_ = some b → Fv Tryz.prog gF lbF #[.int .i64 x0_] (.bool b) w) (h : Qbx.f k l0_0 a1 = some r) :
 Calls Tryz.prog 288 #[.agg #[.slice A0_0 l0_0.length c0_0], .func (.func gF) #[] lbF] w fun e w'=> ∃ v0_:Value,e= .returned (v0_)∧Kd.R (Kd.int .i64) 3 w' w.heap.size (fun _=>True) v0_ r∧Below w.heap.size w w':=by
 have HP:=Aside0.mk hpF;clear hpF;have hu26:=Tryz.underlying26;have HR0_0:=Aside0.mk hr0_0;have HC0_0:=Aside0.mk hc0_0;clear hr0_0 hc0_0;have HB:=Aside0.mk (Below.refl w.heap.size w);have H:((Qda.f l0_0).bind fun t633=>(Qbx.l0 k (([] :List Int)) (wrap64 (t633+1)) 0))=some r:=h;clear h;obtain ⟨y630,hy630⟩: ∃ y_:List Int,y_=(([] :List Int)):=⟨_,rfl⟩
 replace H:((Qda.f l0_0).bind fun t633=>(Qbx.l0 k y630 (wrap64 (t633+1)) 0))=some r:=by first|(rw [hy630];with_reducible exact H)|(have H2_:=(Option.bind_some _ _).symm.trans H;rw [hy630];with_reducible exact H2_)|(have H2_:=(Option.bind_some _ _).symm.trans H;with_reducible exact H2_)|with_reducible exact H|(rw [hy630];exact H)|exact H
 have Ny630:=Aside0.mk hy630;clear hy630;obtain ⟨t633,A3,H⟩:=bs H;(try dsimp only at H)
 have H':=Aside0.mk H;clear H;go_enter Tryz.func288,Tryz.ntmps288;go_wp2_with (first|(refine bE (N:=2) (cs:= #[.slice A0_0 l0_0.length c0_0]) (t:=26) ?_;intro gb629 hg w4 hbox hb;have BK629:=Aside0.mk (hbox);have GW629:=Aside0.mk ((gV hg (uB HB)));have GE629:=GW629;replace HB:=Aside0.mk (Qa (uB HB) hb);clear hb hbox hg)|((with_reducible refine Qc0 (N:=7) rfl ?_);refine Kd.R_lit (Kd.int .i64) _ 3 ?hg (N:=7) ?hd (xs:=([] :List Int)) (inner:= []) (ok:=fun _=>True) (okp:=fun _=>True) ?hr ?hp (fun _ hk=>hk) trivial (Below.refl _ _) (Nat.le_refl _) (by simp) ?_;(case hd=>rfl);(case hg=>rfl);(case hr=>first|(go_simp;done)|(go_simp;rfl));(case hp=>exact (Reps.none _ _));intro v631 w5 ho6 hb hg_ hnew_;clear hg_ hnew_;(first|rw [←Ny630.out] at ho6|(simp only [Int.reduceToNat] at ho6;rw [←Ny630.out] at ho6));have HO632:=Aside0.mk (Kd.R_lower ho6 (Qp (uB HB)));replace BK629:=Aside0.mk (Qc (uK BK629) hb);replace HB:=Aside0.mk (Qa (uB HB) hb);clear hb ho6;have hcz7_0:=bC BK629;have hfz7_0:=Qf BK629.out 0)|(refine gA (some 9) Tryz.func290 #[.agg #[.slice A0_0 l0_0.length c0_0]] ?_;(with_reducible refine (Qda.calls _ _ l0_0 t633 _ (uD HR0_0 HB) HC0_0.out A3.out).mono ?_);rintro e w8 ⟨rfl,hb⟩;refine ⟨_,rfl,?_⟩;replace HO632:=Aside0.mk (Kd.R_below (uR HO632) hb);replace BK629:=Aside0.mk (Qc (uK BK629) hb);replace HB:=Aside0.mk (Qa (uB HB) hb);(try clear hb)))
 go_loopg [5,11] k (fun kq v5 v11 w'=> ∃ (x5_1:List Int) (x11_1:Int),v11= .int .i64 x11_1∧Aside0 (Qbx.l0 kq x5_1 (wrap64 (t633+1)) x11_1=some r)∧Aside0 (kq≤k)∧Aside0 (Kd.R (Kd.int .i64) 3 w' w.heap.size (fun _=>True) v5 x5_1)∧Aside0 (w'.heap[gb629]? =some (.cells #[(.slice A0_0 l0_0.length c0_0)] 26 (0,0)))∧Aside0 (Below w.heap.size w w'))
 case atStart=>exact ⟨(y630),(0),(by first|rfl|(simp;done)|(simp [*];done)),H',⟨Nat.le_refl _⟩,⟨uR HO632⟩,⟨uK BK629⟩,⟨uB HB⟩⟩
 case round=>
  clear H'
  try clear c2
  try clear p2
  try clear p6
  try clear hcz7_0
  try clear hfz7_0
  obtain ⟨x5_1,x11_1,rfl,HA,HK1,HO_5,BK629,HB⟩:=hrel;cases gk with
  |zero=>exact absurd HA.out (by simp [Qbx.l0])
  |succ k1=>
   have H:=HA.out;clear HA;simp only [Qbx.l0] at H
   by_cases c9:x11_1<(wrap64 (t633+1))
   ·
    rw [if_pos c9] at H;have c9b0:=decide_eq_true c9;clear c9;obtain ⟨t634,A10,H⟩:=bs H;(try dsimp only at H)
    by_cases c11:t634=true
    ·
     subst c11;rw [if_pos rfl] at H
     by_cases c12:x5_1.length<17592186044416
     ·
      rw [if_pos c12] at H;have LMc12:=Aside0.mk c12;clear c12;obtain ⟨y635,hy635⟩: ∃ y_:List Int,y_=(x5_1++ [x11_1]):=⟨_,rfl⟩
      replace H:(Qbx.l0 k1 y635 (wrap64 (t633+1)) (wrap64 (x11_1+1)))=some r:=by first|(rw [hy635];with_reducible exact H)|(have H2_:=(Option.bind_some _ _).symm.trans H;rw [hy635];with_reducible exact H2_)|(have H2_:=(Option.bind_some _ _).symm.trans H;with_reducible exact H2_)|with_reducible exact H|(rw [hy635];exact H)|exact H
      have Ny635:=Aside0.mk hy635;clear hy635;have H':=Aside0.mk H;clear H;go_wp2_with (first|(go_at_fn gF;(with_reducible refine (Fv.calls (HP.out _ _ A10.out) (uB HB)).mono ?_);rintro e w13 ⟨rfl,hb⟩;replace HO_5:=Aside0.mk (Kd.R_below (uR HO_5) hb);replace BK629:=Aside0.mk (Qc (uK BK629) hb);replace HB:=Aside0.mk (Qa (uB HB) hb);(try clear hb))|((with_reducible refine Qc4 (b:= .append) (xs:= #[.tmp 17, .tmp 19]) rfl ?_);at_builtin;refine Kd.R_append (Kd.int .i64) (w0:=w) w.heap.size rfl (.tmp 17) (.tmp 19) 24 3 (.int .i64 0) 8 rfl Tryz.underlying24 Qfm rfl (by decide) (by omega) u5 x5_1 x11_1 [.int .i64 x11_1] (fun _=>True) (fun _=>False) rfl rfl ?aP (fun _ hk=>hk.elim) ?aF ?aO ?aB ?aS ?aL ?_;(case aP=>exact rfl);(case aB=>exact (uB HB));(case aF=>exact (fun _ _=>trivial));(case aO=>exact (uR HO_5));(case aS=>exact (Qp (uB HB)));(case aL=>have:=LMc12.out;omega);intro v636 w14 ho hb hg hat;rw [←Ny635.out] at ho;replace BK629:=Aside0.mk (Qds (uK BK629) hg (Kd.R_ne HO_5.out BK629.out (by decide)));replace HB:=Aside0.mk (hb);have HO637:=Aside0.mk (ho);clear HO_5;clear ho hb hg hat));go_roundg k1
      case measure=>have:=HK1.out;omega
      case rel=>exact ⟨(y635),(wrap64 (x11_1+1)),(by first|rfl|(simp;done)|(simp [*];done)),H',⟨by have:=HK1.out;omega⟩,⟨uR HO637⟩,⟨uK BK629⟩,⟨uB HB⟩⟩
     ·
      rw [if_neg c12] at H;exact absurd H (by simp)
    ·
     replace c11:=Bool.eq_false_iff.mpr c11;subst c11;rw [if_neg (show ¬ (false=true) by decide)] at H;have H':=Aside0.mk H;clear H;go_wp2_with (first|(go_at_fn gF;(with_reducible refine (Fv.calls (HP.out _ _ A10.out) (uB HB)).mono ?_);rintro e w15 ⟨rfl,hb⟩;replace HO_5:=Aside0.mk (Kd.R_below (uR HO_5) hb);replace BK629:=Aside0.mk (Qc (uK BK629) hb);replace HB:=Aside0.mk (Qa (uB HB) hb);(try clear hb)));go_roundg k1
     case measure=>have:=HK1.out;omega
     case rel=>exact ⟨(x5_1),(wrap64 (x11_1+1)),(by first|rfl|(simp;done)|(simp [*];done)),H',⟨by have:=HK1.out;omega⟩,⟨uR HO_5⟩,⟨uK BK629⟩,⟨uB HB⟩⟩
   ·
    rw [if_neg c9] at H;have c9b0:=decide_eq_false c9;clear c9;obtain rfl:=Option.some.inj H;go_wp2
    go_ret
    exact ⟨_,by first|rfl|(simp [Qd,Qe] <;>rfl)|(simp [*,Qd,Qe] <;>rfl),uR HO_5,uB HB⟩
end Go.Proofs.YtkgngggppcmpfaaGreat.L
end
section
namespace Go.Proofs.YtkgngggppcmpfaaGreat.L
open Go.RowKit Go.Proofs.YtkgngggppcmpfaaGreatW.PrintWords Go.Proofs.YtkgngggppcmpfaaGreatW.PrintLast Go.Proofs.YtkgngggppcmpfaaGreatW.PrintMore
attribute [local go_sem] Qt Qv Q2 Q3 Qm Qn Qu Qw
set_option linter.unusedVariables false
set_option linter.unusedSimpArgs false
@[reducible] def Qb9.inst (k : Nat) (l0 : List Int) : Fn1 := ⟨fun s => (Qbe.f k l0 s).map (· == s)⟩
def Qb9.f (k : Nat) (l0_0 : List Int) : Option (List Int) := @Qbx.f (Qb9.inst k l0_0) k l0_0 0
theorem Qb9.mono_i (i i' : Fn1) (hi : ∀ s, LeO (i.p s) (i'.p s)) : ∀ k y0 y1 y2, LeO (@Qbx.l0 i k y0 y1 y2) (@Qbx.l0 i' k y0 y1 y2)
 |0,_,_,_=>fun r h=>by cases h
 |k+1,y0,y1,y2=>by
  rw [@Qbx.l0.eq_2 i,@Qbx.l0.eq_2 i'];exact LeO.ite (LeO.bind (hi _) (fun t=>LeO.ite (LeO.ite (Qb9.mono_i i i' hi k _ _ _) (LeO.refl _)) (Qb9.mono_i i i' hi k _ _ _))) (LeO.refl _)
theorem Qb9.mono : ∀ a0 k, LeO (Qb9.f k a0) (Qb9.f (k + 1) a0) := by
 intro l0 k;refine LeO.trans (@Qbx.mono (Qb9.inst k l0) _ _ k) ?_;unfold Qbx.f;refine LeO.bind (LeO.refl _) (fun t=>Qb9.mono_i _ _ (fun s r h=> ?_) _ _ _ _);obtain ⟨v,hv,e⟩:=Option.map_eq_some_iff.mp h;exact Option.map_eq_some_iff.mpr ⟨v,Qbe.mono _ _ _ _ hv,e⟩
open Go.Proofs.YtkgngggppcmpfaaGreat.X in
set_option maxHeartbeats 800000 in
set_option maxRecDepth 100000 in
theorem Qb9.lit (k : Nat) (A0 : Option Addr) (c0 : Nat) (l0 : List Int) (s : Int) (t : Bool) (B : Nat) (w : World) (hr0 : Kd.C (Kd.int .i64) w A0 l0.length l0) (hc0 : l0.length ≤ c0) (hB : B < w.heap.size) (hc : w.cell? ⟨B, 0, none⟩ = some (.slice A0 l0.length c0)) (h : (Qb9.inst k l0).p s = some t) :
 Fv Tryz.prog 289 #[.pointer (some ⟨B,0,none⟩)] #[.int .i64 s] (.bool t) w:=by
 intro W hb;have hc':W.cell? ⟨B,0,none⟩=some (.slice A0 l0.length c0):=(hb.cell (p:=⟨B,0,none⟩) hB).trans hc;obtain ⟨v,hv,rfl⟩:=Option.map_eq_some_iff.mp h;have HV:=Aside0.mk hv;have HR:=Aside0.mk (Kd.C_below hr0 hb);have HC:=Aside0.mk hc0;clear h hv hr0 hb hc hc0;have hu:=Tryz.underlying26;go_enter Tryz.func289,Tryz.ntmps289;go_wp2_with (go_at_call 283;(with_reducible refine (Qbe.calls k _ _ l0 s v _ HR.out HC.out HV.out).mono ?_);rintro e w1 ⟨rfl,hb⟩)
 go_ret
 exact ⟨rfl,hb⟩
open Go.Proofs.YtkgngggppcmpfaaGreat.X in
set_option maxHeartbeats 800000 in
set_option maxRecDepth 100000 in
theorem Qb9.calls (k : Nat) (A0_0 : Option Addr) (c0_0 : Nat) (l0_0 : List Int) (r : List Int) (w : World) (hr0_0 : Kd.C (Kd.int .i64) w A0_0 l0_0.length l0_0) (hc0_0 : l0_0.length ≤ c0_0) (h : Qb9.f k l0_0 = some r) :
 Calls Tryz.prog 169 #[.agg #[.slice A0_0 l0_0.length c0_0]] w fun e w'=> ∃ v0_:Value,e= .returned (v0_)∧Kd.R (Kd.int .i64) 3 w' w.heap.size (fun _=>True) v0_ r∧Below w.heap.size w w':=by
 unfold Qb9.f at h;have HF:=Aside0.mk h;have HR:=Aside0.mk hr0_0;have HC:=Aside0.mk hc0_0;clear h hr0_0 hc0_0;have hu:=Tryz.underlying26;go_enter Tryz.func169,Tryz.ntmps169;go_wp2_with fail;have B0:=Aside0.mk (Qo (Below.refl w.heap.size w) (.cells #[.slice A0_0 l0_0.length c0_0] 26));refine (@Qbx.calls (Qb9.inst k l0_0) 289 #[.pointer (some ⟨w.heap.size,0,none⟩)] (Qgl Tryz.func289 (by kernel_rfl) rfl) k _ _ l0_0 0 r _ (Kd.C_below HR.out B0.out) HC.out (fun s b hb=>Qb9.lit k A0_0 c0_0 l0_0 s b w.heap.size _ (Kd.C_below HR.out B0.out) HC.out (by simp) (by simp) hb) HF.out).mono ?_;rintro e w2 ⟨v0,rfl,hR,hb⟩;have hR2:=Kd.R_lower hR (show w.heap.size≤_ by simp);have B2:=Aside0.mk (Qdj B0.out hb);have HO:=Aside0.mk hR2;clear hR hR2 hb;go_wp2
 go_ret
 exact ⟨_,rfl,HO.out,B2.out⟩
def Q8.p (k : Nat) (l0 wd : List Int) (x : Int) : Bool := ((Ql.f k l0 x wd).getD 0) != x
def Q8.ok (k : Nat) (l0 wd s : List Int) : Bool := s.all fun x => (Ql.f k l0 x wd).isSome
def Q8.f (k : Nat) (l0 : List Int) : Option (List Int × Bool) := (Qcp.f k l0).bind fun t => if t = true then (Qcg.f k l0).bind fun h => (Qba.f k h).bind fun wd => (Qb9.f k l0).bind fun s => if s.length ≤ 9223372036854775806 ∧ Q8.ok k l0 wd s = true then some (s.filter (fun x => !Q8.p k l0 wd x), true) else none else some ([], false)
theorem Q8.ok_at {k : Nat} {l0 wd s : List Int} (h : Q8.ok k l0 wd s = true) (x : Int) (hx : x ∈ s) : ∃ v, Ql.f k l0 x wd = some v := by
 unfold Q8.ok at h;rw [List.all_eq_true] at h;exact Option.isSome_iff_exists.mp (h x hx)
theorem Q8.mono : ∀ a0 k, LeO (Q8.f k a0) (Q8.f (k + 1) a0) := by
 intro l0 k;unfold Q8.f;refine LeO.bind (Qcp.mono _ _) fun t=>LeO.ite (LeO.bind (Qcg.mono _ _) fun h=>LeO.bind (Qba.mono _ _) fun wd=>LeO.bind (Qb9.mono _ _) fun s=> ?_) (LeO.refl _)
 intro r h
 split at h
 ·
  rename_i hc;obtain rfl:=Option.some.inj h;have hm: ∀ x,x ∈ s→ ∀ v,Ql.f k l0 x wd=some v→Ql.f (k+1) l0 x wd=some v:=fun x _ v hv=>Ql.mono _ _ _ k v hv
  rw [if_pos]
  ·
   refine congrArg (fun q=>some (q,true)) (List.filter_congr fun x hx=> ?_);obtain ⟨v,hv⟩:=Q8.ok_at hc.2 x hx;unfold Q8.p;rw [hv,hm x hx v hv]
  ·
   refine ⟨hc.1,?_⟩;unfold Q8.ok;rw [List.all_eq_true];intro x hx;obtain ⟨v,hv⟩:=Q8.ok_at hc.2 x hx;rw [hm x hx v hv];rfl
 ·
  cases h
open Go.Proofs.YtkgngggppcmpfaaGreat.X in
set_option maxHeartbeats 800000 in
set_option maxRecDepth 100000 in
theorem Q8.lit (k : Nat) (A0 : Option Addr) (c0 : Nat) (l0 : List Int) (A2 : Option Addr) (c2 : Nat) (wd : List Int) (s v : Int) (B1 B2 : Nat) (w : World) (hr0 : Kd.C (Kd.int .i64) w A0 l0.length l0) (hc0 : l0.length ≤ c0) (hr2 : Kd.C (Kd.int .i64) w A2 wd.length wd) (hc2 : wd.length ≤ c2)
 (q1:w.cell? ⟨B1,0,none⟩=some (.slice A0 l0.length c0)) (q2:w.cell? ⟨B2,0,none⟩=some (.slice A2 wd.length c2)) (h:Ql.f k l0 s wd=some v):
 Fv Tryz.prog 170 #[.pointer (some ⟨B1,0,none⟩), .pointer (some ⟨B2,0,none⟩)] #[.int .i64 s] (.bool (Q8.p k l0 wd s)) w:=by
 intro W hb;have p1:=Qd6 hb q1;have p2:=Qd6 hb q2;have HR:=Aside0.mk (Kd.C_below hr0 hb);have HR2:=Aside0.mk (Kd.C_below hr2 hb);have HC:=Aside0.mk hc0;have HC2:=Aside0.mk hc2;have HV:=Aside0.mk h;have e1:Q8.p k l0 wd s=(v !=s):=by unfold Q8.p;rw [h];rfl
 rw [e1];clear h hr0 hr2 hb hc0 hc2 q1 q2 e1;have hu:=Tryz.underlying26;go_enter Tryz.func170,Tryz.ntmps170;go_wp2_with fail;refine (Ql.calls k _ _ l0 s _ _ wd v _ HR.out HC.out HR2.out HC2.out HV.out).mono ?_;rintro e w1 ⟨rfl,hb⟩;have B1:=Aside0.mk hb;clear hb
 by_cases hq:v=s
 ·
  subst hq;go_wp2
  go_ret
  exact ⟨by simp,B1.out⟩
 ·
  have hq1:decide (v=s)=false:=decide_eq_false hq;have hq2:(v==s)=false:=beq_eq_false_iff_ne.mpr hq;have hq3:(v !=s)=true:=by rw [bne,hq2];rfl
  have HQ:=Aside0.mk hq3;go_wp2
  go_ret
  exact ⟨by rw [HQ.out];rfl,B1.out⟩
open Go.Proofs.YtkgngggppcmpfaaGreat.X in
set_option maxHeartbeats 1600000 in
set_option maxRecDepth 100000 in
theorem Q8.calls (k : Nat) (A0_0 : Option Addr) (c0_0 : Nat) (l0_0 : List Int) (r1 : List Int) (r2 : Bool) (w : World) (hr0_0 : Kd.C (Kd.int .i64) w A0_0 l0_0.length l0_0) (hc0_0 : l0_0.length ≤ c0_0) (h : Q8.f k l0_0 = some (r1, r2)) :
 Calls Tryz.prog 25 #[.agg #[.slice A0_0 l0_0.length c0_0]] w fun e w'=> ∃ v0_:Value,e= .returned (.tuple #[v0_, .bool r2])∧Kd.R (Kd.int .i64) 3 w' w.heap.size (fun _=>True) v0_ r1∧Below w.heap.size w w':=by
 have HR:=Aside0.mk hr0_0;have HC:=Aside0.mk hc0_0;clear hr0_0 hc0_0;unfold Q8.f at h;obtain ⟨t,ht,h⟩:=Option.bind_eq_some_iff.mp h;have HT:=Aside0.mk ht;clear ht;have hu:=Tryz.underlying26;have B0:=Aside0.mk (Qo (Below.refl w.heap.size w) (.cells #[.slice A0_0 l0_0.length c0_0] 26));cases t with
 |false=>
  have h':some (([] :List Int),false)=some (r1,r2):=h;injection h' with h'
  injection h' with h1 h2
  subst h1 h2;clear h;go_enter Tryz.func25,Tryz.ntmps25;go_wp2_with fail;refine (Qcp.calls k _ _ l0_0 false _ (Kd.C_below HR.out B0.out) HC.out HT.out).mono ?_;rintro e w1 ⟨rfl,hb⟩;have B1:=Aside0.mk (Qdj B0.out hb);clear hb;go_wp2
  go_ret2
  exact ⟨_,rfl,Kd.R_nil _ _ _ _ _,B1.out⟩
 |true=>
  rw [if_pos rfl] at h;obtain ⟨hi,hhi,h⟩:=Option.bind_eq_some_iff.mp h;obtain ⟨wd,hwd,h⟩:=Option.bind_eq_some_iff.mp h;obtain ⟨s,hs,h⟩:=Option.bind_eq_some_iff.mp h
  split at h
  ·
   rename_i hc;injection h with h
   injection h with h1 h2
   have HH:=Aside0.mk hhi;have HW:=Aside0.mk hwd;have HS:=Aside0.mk hs;have HO:=Aside0.mk hc;have HE:=Aside0.mk h1;subst h2;clear hhi hwd hs hc h1;go_enter Tryz.func25,Tryz.ntmps25;go_wp2_with fail;refine (Qcp.calls k _ _ l0_0 true _ (Kd.C_below HR.out B0.out) HC.out HT.out).mono ?_;rintro e w1 ⟨rfl,hb⟩;have x1:=Qd6 hb (show (w.alloc (.cells #[.slice A0_0 l0_0.length c0_0] 26)).cell? ⟨w.heap.size,0,none⟩=some (.slice A0_0 l0_0.length c0_0) by simp);have B1:=Aside0.mk (Qdj B0.out hb);clear hb;go_wp2_with fail;refine (Qcg.calls k _ _ l0_0 hi _ (Kd.C_below HR.out B1.out) HC.out HH.out).mono ?_;rintro e w2 ⟨rfl,hb⟩;have x2:=Aside0.mk (Qd6 hb x1);have B2:=Aside0.mk (Qdj B1.out hb);clear hb x1;go_wp2_with fail;refine (Qba.calls k hi wd _ HW.out).mono ?_;rintro e w3 ⟨v0,rfl,hR,hb⟩;obtain ⟨A2,c2,rfl,hl2,hC2⟩:=Kd.R_reads hR;have x3:=Aside0.mk (Qd6 hb x2.out);have B3:=Aside0.mk (Qdj B2.out hb);have C3:=Aside0.mk hC2;have L3:=Aside0.mk hl2;clear hb x2 hR hC2 hl2;have x4: ∀ o,(World.alloc w3 o).cell? ⟨w.heap.size,0,none⟩=some (.slice A0_0 l0_0.length c0_0):=fun o=>Qd6 (Qo (Below.refl w3.heap.size w3) o) x3.out
   go_wp2_with fail;obtain ⟨W4,hW4⟩: ∃ W4,W4=w3.alloc (.cells #[.slice A2 wd.length c2] 24):=⟨_,rfl⟩
   rw [←hW4];have B4:=Aside0.mk (show Below w.heap.size w W4 by rw [hW4];exact Qo B3.out _);have C4:=Aside0.mk (show Kd.C (Kd.int .i64) W4 A2 wd.length wd by rw [hW4];exact Kd.C_alloc C3.out _);have y1:=Aside0.mk (show W4.cell? ⟨w.heap.size,0,none⟩=some (.slice A0_0 l0_0.length c0_0) by rw [hW4];exact x4 _);have y2:=Aside0.mk (show W4.cell? ⟨w3.heap.size,0,none⟩=some (.slice A2 wd.length c2) by rw [hW4];simp);generalize w3.heap.size=b3 at y2 ⊢;clear hW4 x4 x3 C3 B3;refine (Qb9.calls k _ _ l0_0 s _ (Kd.C_below HR.out B4.out) HC.out HS.out).mono ?_;rintro e w5 ⟨v1,rfl,hR1,hb1⟩;have R5:=Aside0.mk hR1;have B5:=Aside0.mk hb1;clear hR1 hb1;go_wp2_with fail;refine (Qdl.calls v1 s 170 #[.pointer (some ⟨w.heap.size,0,none⟩), .pointer (some ⟨b3,0,none⟩)] (Q8.p k l0_0 wd) W4 _ (Qgl Tryz.func170 (by kernel_rfl) rfl) B5.out R5.out HO.out.1 (fun x hx=> ?_)).mono ?_
   ·
    obtain ⟨v,hv⟩:=Q8.ok_at HO.out.2 x hx;exact Q8.lit k A0_0 c0_0 l0_0 A2 c2 wd x v _ _ W4 (Kd.C_below HR.out B4.out) HC.out C4.out L3.out y1.out y2.out hv
   rintro e w6 ⟨v2,rfl,hR2,hb2⟩;have R6:=Aside0.mk (Kd.R_lower hR2 (show w.heap.size≤W4.heap.size from B4.out.size));have B6:=Aside0.mk (Qdj B4.out hb2);clear hR2 hb2;go_wp2
   go_ret2
   exact ⟨_,rfl,by rw [←HE.out];exact R6.out,B6.out⟩
  ·
   cases h
end Go.Proofs.YtkgngggppcmpfaaGreat.L
end
section
namespace Go.Proofs.YtkgngggppcmpfaaGreat.L
open Go.RowKit Go.Proofs.YtkgngggppcmpfaaGreatW.PrintWords Go.Proofs.YtkgngggppcmpfaaGreatW.PrintLast Go.Proofs.YtkgngggppcmpfaaGreatW.PrintMore Go.Proofs.YtkgngggppcmpfaaGreat.X
attribute [local go_sem] Qt Qv Q2 Q3 Qm Qn Qu Qw
set_option linter.unusedVariables false
set_option linter.unusedSimpArgs false
def Qb8.l0 : Nat → List Int → Int → List Int → Option (List Int)
 |0,_,_,_=>none
 |k+1,x3,x4,x639000=>if x4<(shl .i64 1 (x639000.length:Int)) then ((Qbu.f k x639000 x4).bind fun t639=>(if t639=true then (if x3.length<17592186044416 then (Qb8.l0 k (x3++ [x4]) (wrap64 (x4+1)) x639000) else (none)) else (Qb8.l0 k x3 (wrap64 (x4+1)) x639000))) else (some x3)
def Qb8.f (k : Nat) (l0_0 : List Int) : Option (List Int) := Qb8.l0 k ([] : List Int) 0 l0_0
theorem Qb8.mono_l : ∀ k, (∀ y0 y1 y2, LeO (Qb8.l0 k y0 y1 y2) (Qb8.l0 (k + 1) y0 y1 y2))
 |0=>fun _ _ _ r h=>by simp [Qb8.l0] at h
 |k+1=>by
  have ih0:=Qb8.mono_l k
  ·
   intro y0 y1 y2;unfold Qb8.l0
   repeat' first
   |(with_reducible exact ih0 _ _ _)
   |(with_reducible exact Qbu.mono _ _ _)
   |(with_reducible exact LeO.refl _)
   |(with_reducible exact LeO.none _)
   |(with_reducible refine LeO.ite ?_ ?_)
   |(with_reducible refine LeO.bind ?_ (fun _=> ?_))
   |exact ih0 _ _ _
   |exact Qbu.mono _ _ _
   |exact LeO.none _
   |refine LeO.ite ?_ ?_
   |refine LeO.bind ?_ (fun _=> ?_)
theorem Qb8.mono : ∀ a0 k, LeO (Qb8.f k a0) (Qb8.f (k + 1) a0) := by
 intro a0 k;have ih0:=Qb8.mono_l k;unfold Qb8.f
 repeat' (with_reducible first|apply ih0|apply Qbu.mono|exact LeO.refl _|exact LeO.none _|refine LeO.ite ?_ ?_|refine LeO.bind ?_ (fun _=> ?_))
set_option maxHeartbeats 8000000 in
set_option maxRecDepth 100000 in
theorem Qb8.calls (k : Nat) (A0_0 : Option Addr) (c0_0 : Nat) (l0_0 : List Int) (r : List Int) (w : World) (hr0_0 : Kd.C (Kd.int .i64) w A0_0 l0_0.length l0_0) (hc0_0 : l0_0.length ≤ c0_0) (h : Qb8.f k l0_0 = some r) :
 Calls Tryz.prog 171 #[.agg #[.slice A0_0 l0_0.length c0_0]] w fun e w'=> ∃ v0_:Value,e= .returned (v0_)∧Kd.R (Kd.int .i64) 3 w' w.heap.size (fun _=>True) v0_ r∧Below w.heap.size w w':=by
 have hu26:=Tryz.underlying26;have HR0_0:=Aside0.mk hr0_0;have HC0_0:=Aside0.mk hc0_0;clear hr0_0 hc0_0;have HB:=Aside0.mk (Below.refl w.heap.size w);have H:(Qb8.l0 k ([] :List Int) 0 l0_0)=some r:=h;clear h;have H':=Aside0.mk H;clear H;go_enter Tryz.func171,Tryz.ntmps171;go_wp2_with (first|(refine bE (N:=1) (cs:= #[.slice A0_0 l0_0.length c0_0]) (t:=26) ?_;intro gb638 hg w2 hbox hb;have BK638:=Aside0.mk (hbox);have GW638:=Aside0.mk ((gV hg (uB HB)));have GE638:=GW638;replace HB:=Aside0.mk (Qa (uB HB) hb);clear hb hbox hg))
 go_loopg [3,4] k (fun kq v3 v4 w'=> ∃ (x3_1:List Int) (x4_1:Int),v4= .int .i64 x4_1∧Aside0 (Qb8.l0 kq x3_1 x4_1 l0_0=some r)∧Aside0 (kq≤k)∧Aside0 (Kd.R (Kd.int .i64) 3 w' w.heap.size (fun _=>True) v3 x3_1)∧Aside0 (w'.heap[gb638]? =some (.cells #[(.slice A0_0 l0_0.length c0_0)] 26 (0,0)))∧Aside0 (Below w.heap.size w w'))
 case atStart=>exact ⟨(([] :List Int)),(0),(by first|rfl|(simp;done)|(simp [*];done)),H',⟨Nat.le_refl _⟩,⟨by first|exact Kd.R_nil _ _ _ _ _|exact Kd.N_nil _ _ _ _ _|exact Kd.V_nil _ _ _ _ _|exact Kd.Q_nil _ _ _ _ _|exact Kd.S_nil _ _ _ _ _⟩,⟨uK BK638⟩,⟨uB HB⟩⟩
 case round=>
  clear H'
  try clear c1
  try clear p2
  obtain ⟨x3_1,x4_1,rfl,HA,HK1,HO_3,BK638,HB⟩:=hrel;cases gk with
  |zero=>exact absurd HA.out (by simp [Qb8.l0])
  |succ k1=>
   have H:=HA.out;clear HA;simp only [Qb8.l0] at H;obtain ⟨ji3,hji3⟩: ∃ j_:Int,(shl .i64 1 (l0_0.length:Int))=j_:=⟨_,rfl⟩
   replace H:(if x4_1<(ji3) then ((Qbu.f k1 l0_0 x4_1).bind fun t639=>(if t639=true then (if x3_1.length<17592186044416 then (Qb8.l0 k1 (x3_1++ [x4_1]) (wrap64 (x4_1+1)) l0_0) else (none)) else (Qb8.l0 k1 x3_1 (wrap64 (x4_1+1)) l0_0))) else (some x3_1))=some r:=by first|(rw [hji3] at H;exact H)|(simp only [hji3] at H ⊢;exact H)
   have hji3_:(IntKind.i64.wrap (1*2 ^ min (l0_0.length:Int).toNat 64))=ji3:=hji3;have hji3z:(l0_0.length:Int)≤64→(IntKind.i64.wrap (1*2 ^ (l0_0.length:Int).toNat))=ji3:=Qd1 hji3;have hji3p:(IntKind.i64.wrap (1*2 ^ min l0_0.length 64))=ji3:=hji3_;have hji3q:(l0_0.length:Int)≤64→(IntKind.i64.wrap (1*2 ^ l0_0.length))=ji3:=hji3z;have hji3r:(IntKind.i64.wrap (2 ^ min l0_0.length 64))=ji3:=by have h_:=hji3p;rw [Int.one_mul] at h_;exact h_
   have hji3s:(l0_0.length:Int)≤64→(IntKind.i64.wrap (2 ^ l0_0.length))=ji3:=fun hle_=>by have h_:=hji3q hle_;rw [Int.one_mul] at h_;exact h_
   have hji3u:(IntKind.i64.wrap (2 ^ min (l0_0.length:Int).toNat 64))=ji3:=by have h_:=hji3_;rw [Int.one_mul] at h_;exact h_
   have hji3v:(l0_0.length:Int)≤64→(IntKind.i64.wrap (2 ^ (l0_0.length:Int).toNat))=ji3:=fun hle_=>by have h_:=hji3z hle_;rw [Int.one_mul] at h_;exact h_
   have hji3y:(wrap64 (1*2 ^ min (l0_0.length:Int).toNat 64))=ji3:=(Qcu _).symm.trans hji3_;have hji3x:(l0_0.length:Int)≤64→(wrap64 (1*2 ^ (l0_0.length:Int).toNat))=ji3:=fun h_=>(Qcu _).symm.trans (hji3z h_)
   by_cases c4:x4_1<(ji3)
   ·
    rw [if_pos c4] at H;have c4b0:=decide_eq_true c4;clear c4;obtain ⟨t639,A5,H⟩:=bs H;(try dsimp only at H)
    by_cases c6:t639=true
    ·
     subst c6;rw [if_pos rfl] at H
     by_cases c7:x3_1.length<17592186044416
     ·
      rw [if_pos c7] at H;have LMc7:=Aside0.mk c7;clear c7;obtain ⟨y640,hy640⟩: ∃ y_:List Int,y_=(x3_1++ [x4_1]):=⟨_,rfl⟩
      replace H:(Qb8.l0 k1 y640 (wrap64 (x4_1+1)) l0_0)=some r:=by first|(rw [hy640];with_reducible exact H)|(have H2_:=(Option.bind_some _ _).symm.trans H;rw [hy640];with_reducible exact H2_)|(have H2_:=(Option.bind_some _ _).symm.trans H;with_reducible exact H2_)|with_reducible exact H|(rw [hy640];exact H)|exact H
      have Ny640:=Aside0.mk hy640;clear hy640;have H':=Aside0.mk H;clear H;have hcz8_0:=bC BK638;have hfz8_0:=Qf BK638.out 0;go_wp2_with (first|(refine gA (some 15) Tryz.func278 #[.agg #[.slice A0_0 l0_0.length c0_0], .int .i64 x4_1] ?_;(with_reducible refine (Qbu.calls k1 _ _ l0_0 x4_1 true _ (uD HR0_0 HB) HC0_0.out A5.out).mono ?_);rintro e w9 ⟨rfl,hb⟩;refine ⟨_,rfl,?_⟩;replace HO_3:=Aside0.mk (Kd.R_below (uR HO_3) hb);replace BK638:=Aside0.mk (Qc (uK BK638) hb);replace HB:=Aside0.mk (Qa (uB HB) hb);(try clear hb))|((with_reducible refine Qc4 (b:= .append) (xs:= #[.tmp 16, .tmp 18]) rfl ?_);at_builtin;refine Kd.R_append (Kd.int .i64) (w0:=w) w.heap.size rfl (.tmp 16) (.tmp 18) 24 3 (.int .i64 0) 8 rfl Tryz.underlying24 Qfm rfl (by decide) (by omega) u3 x3_1 x4_1 [.int .i64 x4_1] (fun _=>True) (fun _=>False) rfl rfl ?aP (fun _ hk=>hk.elim) ?aF ?aO ?aB ?aS ?aL ?_;(case aP=>exact rfl);(case aB=>exact (uB HB));(case aF=>exact (fun _ _=>trivial));(case aO=>exact (uR HO_3));(case aS=>exact (Qp (uB HB)));(case aL=>have:=LMc7.out;omega);intro v641 w10 ho hb hg hat;rw [←Ny640.out] at ho;replace BK638:=Aside0.mk (Qds (uK BK638) hg (Kd.R_ne HO_3.out BK638.out (by decide)));replace HB:=Aside0.mk (hb);have HO642:=Aside0.mk (ho);clear HO_3;clear ho hb hg hat));go_roundg k1
      case measure=>have:=HK1.out;omega
      case rel=>exact ⟨(y640),(wrap64 (x4_1+1)),(by first|rfl|(simp;done)|(simp [*];done)),H',⟨by have:=HK1.out;omega⟩,⟨uR HO642⟩,⟨uK BK638⟩,⟨uB HB⟩⟩
     ·
      rw [if_neg c7] at H;exact absurd H (by simp)
    ·
     replace c6:=Bool.eq_false_iff.mpr c6;subst c6;rw [if_neg (show ¬ (false=true) by decide)] at H;have H':=Aside0.mk H;clear H;have hcz11_0:=bC BK638;have hfz11_0:=Qf BK638.out 0;go_wp2_with (first|(refine gA (some 15) Tryz.func278 #[.agg #[.slice A0_0 l0_0.length c0_0], .int .i64 x4_1] ?_;(with_reducible refine (Qbu.calls k1 _ _ l0_0 x4_1 false _ (uD HR0_0 HB) HC0_0.out A5.out).mono ?_);rintro e w12 ⟨rfl,hb⟩;refine ⟨_,rfl,?_⟩;replace HO_3:=Aside0.mk (Kd.R_below (uR HO_3) hb);replace BK638:=Aside0.mk (Qc (uK BK638) hb);replace HB:=Aside0.mk (Qa (uB HB) hb);(try clear hb)));go_roundg k1
     case measure=>have:=HK1.out;omega
     case rel=>exact ⟨(x3_1),(wrap64 (x4_1+1)),(by first|rfl|(simp;done)|(simp [*];done)),H',⟨by have:=HK1.out;omega⟩,⟨uR HO_3⟩,⟨uK BK638⟩,⟨uB HB⟩⟩
   ·
    rw [if_neg c4] at H;have c4b0:=decide_eq_false c4;clear c4;obtain rfl:=Option.some.inj H;have hcz13_0:=bC BK638;have hfz13_0:=Qf BK638.out 0;go_wp2
    go_ret
    exact ⟨_,by first|rfl|(simp [Qd,Qe] <;>rfl)|(simp only [←hji3];first|rfl|(simp [Qd,Qe] <;>rfl))|(simp [*,Qd,Qe] <;>rfl),uR HO_3,uB HB⟩
def Qbk.l0 : Nat → List Int → List Int → List Int → Int → Int → List Int → Option (List Int × Bool)
 |0,_,_,_,_,_,_=>none
 |k+1,x4,x5,x14,x15,x16,x644000=>if x16<x15 then (if 0≤x16 then (if x16<(x14.length:Int) then ((Qbt.f k x644000 (rd x14 x16) x4).bind fun t652=>(if t652=(rd x14 x16) then (if x5.length<17592186044416 then (Qbk.l0 k x4 (x5++ [rd x14 x16]) x14 x15 (wrap64 (x16+1)) x644000) else (none)) else (Qbk.l0 k x4 x5 x14 x15 (wrap64 (x16+1)) x644000))) else (none)) else (none)) else (some (x5,true))
def Qbk.f (k : Nat) (l0_0 : List Int) : Option (List Int × Bool) := (Qc2.f k l0_0).bind fun t644 => (if t644 = true then ((Qbi.f k l0_0).bind fun t645 => ((Qb8.f k l0_0).bind fun t648 => (Qbk.l0 k t645 ([] : List Int) t648 (t648.length : Int) 0 l0_0))) else (some (([] : List Int), false)))
theorem Qbk.mono_l : ∀ k, (∀ y0 y1 y2 y3 y4 y5, LeO (Qbk.l0 k y0 y1 y2 y3 y4 y5) (Qbk.l0 (k + 1) y0 y1 y2 y3 y4 y5))
 |0=>fun _ _ _ _ _ _ r h=>by simp [Qbk.l0] at h
 |k+1=>by
  have ih0:=Qbk.mono_l k
  ·
   intro y0 y1 y2 y3 y4 y5;unfold Qbk.l0
   repeat' first
   |(with_reducible exact ih0 _ _ _ _ _ _)
   |(with_reducible exact Qb8.mono _ _)
   |(with_reducible exact Qc2.mono _ _)
   |(with_reducible exact Qbi.mono _ _)
   |(with_reducible exact Qbt.mono _ _ _ _)
   |(with_reducible exact LeO.refl _)
   |(with_reducible exact LeO.none _)
   |(with_reducible refine LeO.ite ?_ ?_)
   |(with_reducible refine LeO.bind ?_ (fun _=> ?_))
   |exact ih0 _ _ _ _ _ _
   |exact Qb8.mono _ _
   |exact Qc2.mono _ _
   |exact Qbi.mono _ _
   |exact Qbt.mono _ _ _ _
   |exact LeO.none _
   |refine LeO.ite ?_ ?_
   |refine LeO.bind ?_ (fun _=> ?_)
theorem Qbk.mono : ∀ a0 k, LeO (Qbk.f k a0) (Qbk.f (k + 1) a0) := by
 intro a0 k;have ih0:=Qbk.mono_l k;unfold Qbk.f
 repeat' (with_reducible first|apply ih0|apply Qb8.mono|apply Qc2.mono|apply Qbi.mono|apply Qbt.mono|exact LeO.refl _|exact LeO.none _|refine LeO.ite ?_ ?_|refine LeO.bind ?_ (fun _=> ?_))
set_option maxHeartbeats 8000000 in
set_option maxRecDepth 100000 in
theorem Qbk.calls (k : Nat) (A0_0 : Option Addr) (c0_0 : Nat) (l0_0 : List Int) (r1 : List Int) (r2 : Bool) (w : World) (hr0_0 : Kd.C (Kd.int .i64) w A0_0 l0_0.length l0_0) (hc0_0 : l0_0.length ≤ c0_0) (h : Qbk.f k l0_0 = some (r1, r2)) :
 Calls Tryz.prog 26 #[.agg #[.slice A0_0 l0_0.length c0_0]] w fun e w'=> ∃ v0_:Value,e= .returned (.tuple #[v0_, .bool r2])∧Kd.R (Kd.int .i64) 3 w' w.heap.size (fun _=>True) v0_ r1∧Below w.heap.size w w':=by
 have hu26:=Tryz.underlying26;have HR0_0:=Aside0.mk hr0_0;have HC0_0:=Aside0.mk hc0_0;clear hr0_0 hc0_0;have HB:=Aside0.mk (Below.refl w.heap.size w);have H:((Qc2.f k l0_0).bind fun t644=>(if t644=true then ((Qbi.f k l0_0).bind fun t645=>((Qb8.f k l0_0).bind fun t648=>(Qbk.l0 k t645 ([] :List Int) t648 (t648.length:Int) 0 l0_0))) else (some (([] :List Int),false))))=some (r1,r2):=h;clear h;obtain ⟨t644,A2,H⟩:=bs H;(try dsimp only at H)
 by_cases c3:t644=true
 ·
  subst c3;rw [if_pos rfl] at H;obtain ⟨t645,A4,H⟩:=bs H;(try dsimp only at H)
  obtain ⟨t648,A5,H⟩:=bs H;(try dsimp only at H)
  have H':=Aside0.mk H;clear H;go_enter Tryz.func26,Tryz.ntmps26;go_wp2_with (first|(refine bE (N:=1) (cs:= #[.slice A0_0 l0_0.length c0_0]) (t:=26) ?_;intro gb643 hg w6 hbox hb;have BK643:=Aside0.mk (hbox);have GW643:=Aside0.mk ((gV hg (uB HB)));have GE643:=GW643;replace HB:=Aside0.mk (Qa (uB HB) hb);clear hb hbox hg;have hcz7_0:=bC BK643;have hfz7_0:=Qf BK643.out 0)|(refine gA (some 9) Tryz.func165 #[.agg #[.slice A0_0 l0_0.length c0_0]] ?_;(with_reducible refine (Qc2.calls k _ _ l0_0 true _ (uD HR0_0 HB) HC0_0.out A2.out).mono ?_);rintro e w8 ⟨rfl,hb⟩;refine ⟨_,rfl,?_⟩;replace BK643:=Aside0.mk (Qc (uK BK643) hb);replace HB:=Aside0.mk (Qa (uB HB) hb);(try clear hb);have hcz9_0:=bC BK643;have hfz9_0:=Qf BK643.out 0)|(refine gA (some 12) Tryz.func154 #[.agg #[.slice A0_0 l0_0.length c0_0]] ?_;(with_reducible refine (Qbi.calls k _ _ l0_0 t645 _ (uD HR0_0 HB) HC0_0.out A4.out).mono ?_);rintro e w10 ⟨v646,rfl,ho0,hb⟩;refine ⟨_,rfl,?_⟩;have HO647:=Aside0.mk (Kd.R_lower ho0 (Qp (uB HB)));replace BK643:=Aside0.mk (Qc (uK BK643) hb);replace HB:=Aside0.mk (Qa (uB HB) hb);(try clear hb ho0);have hcz11_0:=bC BK643;have hfz11_0:=Qf BK643.out 0)|(refine gA (some 14) Tryz.func171 #[.agg #[.slice A0_0 l0_0.length c0_0]] ?_;(with_reducible refine (Qb8.calls k _ _ l0_0 t648 _ (uD HR0_0 HB) HC0_0.out A5.out).mono ?_);rintro e w12 ⟨v649,rfl,ho0,hb⟩;refine ⟨_,rfl,?_⟩;have HO650:=Aside0.mk (Kd.R_lower (Kd.R_new' ho0 (Kd.R_lt (uR HO647))) (Qp (uB HB)));replace HO647:=Aside0.mk (Kd.R_elder' (uR HO647) (Kd.R_base ho0) hb);replace BK643:=Aside0.mk (Qc (uK BK643) hb);replace HB:=Aside0.mk (Qa (uB HB) hb);(try clear hb ho0);obtain ⟨Ao13,co13,eo13⟩:=Kd.R_slice HO650.out;subst eo13))
  go_loopg [5,16] k (fun kq v5 v16 w'=> ∃ (x5_1:List Int) (x16_1:Int),v16= .int .i64 x16_1∧Aside0 (Qbk.l0 kq t645 x5_1 t648 (t648.length:Int) x16_1 l0_0=some (r1,r2))∧Aside0 (kq≤k)∧Aside0 (Kd.R (Kd.int .i64) 3 w' w.heap.size (fun k_=>some k_≠(v5:Value).ownBlock∧some k_≠((.slice Ao13 t648.length co13):Value).ownBlock) v646 t645)∧Aside0 (Kd.R (Kd.int .i64) 3 w' w.heap.size (fun k_=>some k_≠(v646:Value).ownBlock∧some k_≠((.slice Ao13 t648.length co13):Value).ownBlock) v5 x5_1)∧Aside0 (Kd.R (Kd.int .i64) 3 w' w.heap.size (fun k_=>some k_≠(v646:Value).ownBlock∧some k_≠(v5:Value).ownBlock) (.slice Ao13 t648.length co13) t648)∧Aside0 (w'.heap[gb643]? =some (.cells #[(.slice A0_0 l0_0.length c0_0)] 26 (0,0)))∧Aside0 (Below w.heap.size w w'))
  case atStart=>exact ⟨(([] :List Int)),(0),(by first|rfl|(simp;done)|(simp [*];done)),H',⟨Nat.le_refl _⟩,⟨by (with_reducible repeat (first|apply Kd.R_alloc|apply Kd.R_drewN|apply Kd.R_drew));exact Kd.R_mono HO647.out (fun _ hk=>⟨(by simp [Value.ownBlock]),hk.2⟩)⟩,⟨by first|exact Kd.R_nil _ _ _ _ _|exact Kd.N_nil _ _ _ _ _|exact Kd.V_nil _ _ _ _ _|exact Kd.Q_nil _ _ _ _ _|exact Kd.S_nil _ _ _ _ _⟩,⟨by (with_reducible repeat (first|apply Kd.R_alloc|apply Kd.R_drewN|apply Kd.R_drew));exact Kd.R_mono HO650.out (fun _ hk=>⟨hk.2,(by simp [Value.ownBlock])⟩)⟩,⟨uK BK643⟩,⟨uB HB⟩⟩
  case round=>
   clear H'
   try clear c1
   try clear c2
   try clear p2
   try clear c3
   try clear hcz11_0
   try clear hcz7_0
   try clear hcz9_0
   try clear hfz11_0
   try clear hfz7_0
   try clear hfz9_0
   obtain ⟨x5_1,x16_1,rfl,HA,HK1,HO_4,HO_5,HO_14,BK643,HB⟩:=hrel;cases gk with
   |zero=>exact absurd HA.out (by simp [Qbk.l0])
   |succ k1=>
    have H:=HA.out;clear HA;simp only [Qbk.l0] at H
    by_cases c14:x16_1<(t648.length:Int)
    ·
     rw [if_pos c14] at H;have c14b0:=decide_eq_true c14;clear c14
     by_cases c15:0≤x16_1
     ·
      rw [if_pos c15] at H;have c15b0:=decide_eq_true c15;clear c15
      by_cases c16:x16_1<(t648.length:Int)
      ·
       rw [if_pos c16] at H;have c16b0:=decide_eq_true c16;clear c16;obtain ⟨t652,A17,H⟩:=bs H;(try dsimp only at H)
       by_cases c18:t652=(rd t648 x16_1)
       ·
        rw [if_pos c18] at H;have c18b0:(t652==(rd t648 x16_1))=true:=beq_iff_eq.mpr c18;have c18b1:(t652 !=(rd t648 x16_1))=false:=bne_eq_false_iff_eq.mpr c18;clear c18
        by_cases c19:x5_1.length<17592186044416
        ·
         rw [if_pos c19] at H;have LMc19:=Aside0.mk c19;clear c19;obtain ⟨y653,hy653⟩: ∃ y_:List Int,y_=(x5_1++ [rd t648 x16_1]):=⟨_,rfl⟩
         replace H:(Qbk.l0 k1 t645 y653 t648 (t648.length:Int) (wrap64 (x16_1+1)) l0_0)=some (r1,r2):=by first|(rw [hy653];with_reducible exact H)|(have H2_:=(Option.bind_some _ _).symm.trans H;rw [hy653];with_reducible exact H2_)|(have H2_:=(Option.bind_some _ _).symm.trans H;with_reducible exact H2_)|with_reducible exact H|(rw [hy653];exact H)|exact H
         have Ny653:=Aside0.mk hy653;clear hy653;have H':=Aside0.mk H;clear H;have p651:0≤(x16_1:Int):=of_decide_eq_true (by first|(with_reducible assumption)|assumption);have q651:x16_1<(t648.length:Int):=of_decide_eq_true (by first|(with_reducible assumption)|assumption);obtain ⟨ad651,e651,hx651_0⟩:=Kd.at_int (Kd.R_reads' HO_14.out).2.2 x16_1 p651 q651;cases e651;replace p651:=eq_true p651;replace q651:=eq_true q651;have hcz20_0:=bC BK643;have hfz20_0:=Qf BK643.out 0;obtain ⟨Ao21,co21,eo21⟩:=Kd.R_slice HO_4.out;subst eo21;go_wp2_with (first|(refine gA (some 23) Tryz.func153 #[.agg #[.slice A0_0 l0_0.length c0_0], .int .i64 (rd t648 x16_1), .slice Ao21 t645.length co21] ?_;(with_reducible refine (Qbt.calls k1 _ _ l0_0 (rd t648 x16_1) _ _ t645 t652 _ (uD HR0_0 HB) HC0_0.out (uE HO_4) ?side4 A17.out).mono ?_);(case side4=>exact (Kd.R_reads' HO_4.out).2.1);rintro e w22 ⟨rfl,hb⟩;refine ⟨_,rfl,?_⟩;replace HO_4:=Aside0.mk (Kd.R_below (uR HO_4) hb);replace HO_5:=Aside0.mk (Kd.R_below (uR HO_5) hb);replace HO_14:=Aside0.mk (Kd.R_below (uR HO_14) hb);replace BK643:=Aside0.mk (Qc (uK BK643) hb);replace HB:=Aside0.mk (Qa (uB HB) hb);(try clear hb))|((with_reducible refine Qc4 (b:= .append) (xs:= #[.tmp 26, .tmp 28]) rfl ?_);at_builtin;refine Kd.R_append (Kd.int .i64) (w0:=w) w.heap.size rfl (.tmp 26) (.tmp 28) 24 3 (.int .i64 0) 8 rfl Tryz.underlying24 Qfm rfl (by decide) (by omega) u5 x5_1 (rd t648 x16_1) [.int .i64 (rd t648 x16_1)] (fun k_=>some k_≠(.slice Ao21 t645.length co21:Value).ownBlock∧some k_≠(.slice (some ad651) t648.length co13:Value).ownBlock) (fun _=>False) rfl rfl ?aP (fun _ hk=>hk.elim) ?aF ?aO ?aB ?aS ?aL ?_;(case aP=>exact rfl);(case aB=>exact (uB HB));(case aF=>exact (fun k_ hk=>⟨Kd.fresh' (Kd.R_lt (uR HO_4)) k_ hk,Kd.fresh' (Kd.R_lt (uR HO_14)) k_ hk⟩));(case aO=>exact (uR HO_5));(case aS=>exact (Qp (uB HB)));(case aL=>have:=LMc19.out;omega);intro v654 w23 ho hb hg hat;rw [←Ny653.out] at ho;replace HO_4:=Aside0.mk (Kd.R_after (ok:=(fun k_=>some k_≠(.slice (some ad651) t648.length co13:Value).ownBlock)) (by (with_reducible repeat (first|apply Kd.R_alloc|apply Kd.R_drewN|apply Kd.R_drew));exact Kd.R_mono HO_4.out (fun _ hk=>⟨hk.2,hk.1⟩)) hg hat);replace HO_14:=Aside0.mk (Kd.R_after (ok:=(fun k_=>some k_≠(.slice Ao21 t645.length co21:Value).ownBlock)) (uR HO_14) hg hat);replace BK643:=Aside0.mk (Qds (uK BK643) hg (Kd.R_ne HO_5.out BK643.out (by decide)));replace HB:=Aside0.mk (hb);have HO655:=Aside0.mk (ho);clear HO_5;clear ho hb hg hat));go_roundg k1
         case measure=>have:=HK1.out;omega
         case rel=>exact ⟨(y653),(wrap64 (x16_1+1)),(by first|rfl|(simp;done)|(simp [*];done)),H',⟨by have:=HK1.out;omega⟩,⟨by (with_reducible repeat (first|apply Kd.R_alloc|apply Kd.R_drewN|apply Kd.R_drew));exact Kd.R_mono HO_4.out (fun _ hk=>⟨hk.2,hk.1⟩)⟩,⟨uR HO655⟩,⟨uR HO_14⟩,⟨uK BK643⟩,⟨uB HB⟩⟩
        ·
         rw [if_neg c19] at H;exact absurd H (by simp)
       ·
        rw [if_neg c18] at H;have c18b0:(t652==(rd t648 x16_1))=false:=beq_eq_false_iff_ne.mpr c18;have c18b1:(t652 !=(rd t648 x16_1))=true:=bne_iff_ne.mpr c18;have H':=Aside0.mk H;clear H;have p651:0≤(x16_1:Int):=of_decide_eq_true (by first|(with_reducible assumption)|assumption);have q651:x16_1<(t648.length:Int):=of_decide_eq_true (by first|(with_reducible assumption)|assumption);obtain ⟨ad651,e651,hx651_0⟩:=Kd.at_int (Kd.R_reads' HO_14.out).2.2 x16_1 p651 q651;cases e651;replace p651:=eq_true p651;replace q651:=eq_true q651;have hcz24_0:=bC BK643;have hfz24_0:=Qf BK643.out 0;obtain ⟨Ao25,co25,eo25⟩:=Kd.R_slice HO_4.out;subst eo25;go_wp2_with (first|(refine gA (some 23) Tryz.func153 #[.agg #[.slice A0_0 l0_0.length c0_0], .int .i64 (rd t648 x16_1), .slice Ao25 t645.length co25] ?_;(with_reducible refine (Qbt.calls k1 _ _ l0_0 (rd t648 x16_1) _ _ t645 t652 _ (uD HR0_0 HB) HC0_0.out (uE HO_4) ?side4 A17.out).mono ?_);(case side4=>exact (Kd.R_reads' HO_4.out).2.1);rintro e w26 ⟨rfl,hb⟩;refine ⟨_,rfl,?_⟩;replace HO_4:=Aside0.mk (Kd.R_below (uR HO_4) hb);replace HO_5:=Aside0.mk (Kd.R_below (uR HO_5) hb);replace HO_14:=Aside0.mk (Kd.R_below (uR HO_14) hb);replace BK643:=Aside0.mk (Qc (uK BK643) hb);replace HB:=Aside0.mk (Qa (uB HB) hb);(try clear hb)));go_roundg k1
        case measure=>have:=HK1.out;omega
        case rel=>exact ⟨(x5_1),(wrap64 (x16_1+1)),(by first|rfl|(simp;done)|(simp [*];done)),H',⟨by have:=HK1.out;omega⟩,⟨uR HO_4⟩,⟨uR HO_5⟩,⟨uR HO_14⟩,⟨uK BK643⟩,⟨uB HB⟩⟩
      ·
       rw [if_neg c16] at H;exact absurd H (by simp)
     ·
      rw [if_neg c15] at H;exact absurd H (by simp)
    ·
     rw [if_neg c14] at H;have c14b0:=decide_eq_false c14;clear c14;simp only [Option.some.injEq,Prod.mk.injEq] at H;obtain ⟨rfl,rfl⟩:=H;go_wp2
     go_ret2
     exact ⟨_,by first|rfl|(simp [Qd,Qe] <;>rfl)|(simp [*,Qd,Qe] <;>rfl),by (with_reducible repeat (first|apply Kd.R_alloc|apply Kd.R_drewN|apply Kd.R_drew));exact Kd.R_mono HO_5.out (fun _ hk=>trivial),uB HB⟩
 ·
  replace c3:=Bool.eq_false_iff.mpr c3;subst c3;rw [if_neg (show ¬ (false=true) by decide)] at H;simp only [Option.some.injEq,Prod.mk.injEq] at H;obtain ⟨rfl,rfl⟩:=H;go_enter Tryz.func26,Tryz.ntmps26;go_wp2_with (first|(refine bE (N:=1) (cs:= #[.slice A0_0 l0_0.length c0_0]) (t:=26) ?_;intro gb643 hg w27 hbox hb;have BK643:=Aside0.mk (hbox);have GW643:=Aside0.mk ((gV hg (uB HB)));have GE643:=GW643;replace HB:=Aside0.mk (Qa (uB HB) hb);clear hb hbox hg;have hcz28_0:=bC BK643;have hfz28_0:=Qf BK643.out 0)|(refine gA (some 9) Tryz.func165 #[.agg #[.slice A0_0 l0_0.length c0_0]] ?_;(with_reducible refine (Qc2.calls k _ _ l0_0 false _ (uD HR0_0 HB) HC0_0.out A2.out).mono ?_);rintro e w29 ⟨rfl,hb⟩;refine ⟨_,rfl,?_⟩;replace BK643:=Aside0.mk (Qc (uK BK643) hb);replace HB:=Aside0.mk (Qa (uB HB) hb);(try clear hb)))
  go_ret2
  exact ⟨_,by first|rfl|(simp [Qd,Qe] <;>rfl)|(simp [*,Qd,Qe] <;>rfl),by first|exact Kd.R_nil _ _ _ _ _|exact Kd.N_nil _ _ _ _ _|exact Kd.V_nil _ _ _ _ _|exact Kd.Q_nil _ _ _ _ _|exact Kd.S_nil _ _ _ _ _,uB HB⟩
end Go.Proofs.YtkgngggppcmpfaaGreat.L
end
