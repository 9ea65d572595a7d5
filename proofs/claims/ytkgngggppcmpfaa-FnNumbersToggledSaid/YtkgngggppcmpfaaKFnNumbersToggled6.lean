/- Laws about the given program: the law FnNumbersToggled answers true for every input that its row lets in; no condition is added to the given statement. Contracts of the Go functions that it reaches, and the plain proof over lists. -/
import Derived.Test.YtkgngggppcmpfaaWFnNumbersToggled0
import Derived.Test.YtkgngggppcmpfaaKFnNumbersToggled0
import Derived.Test.YtkgngggppcmpfaaKFnNumbersToggled1
import Derived.Test.YtkgngggppcmpfaaKFnNumbersToggled2
import Derived.Test.YtkgngggppcmpfaaKFnNumbersToggled3
import Derived.Test.YtkgngggppcmpfaaKFnNumbersToggled4
import Derived.Test.YtkgngggppcmpfaaKFnNumbersToggled5
section
namespace Go.Proofs.Ytkgngggppcmpfaa.L
open Go.RowKit Go.Proofs.YtkgngggppcmpfaaW.PrintWords Go.Proofs.YtkgngggppcmpfaaW.PrintLast Go.Proofs.YtkgngggppcmpfaaW.PrintMore Go.Proofs.Ytkgngggppcmpfaa.X
attribute [local go_sem] max2_int min2_int max_two min_two max_three min_three max_four min_four
set_option linter.unusedVariables false
set_option linter.unusedSimpArgs false
def spec_IsArray.f (k : Nat) (l0_0 : List Int) (l1 : List Int) (a2 : Int) : Option (Bool × Bool) := (spec_poGood.f k l0_0).bind fun t574 => (if t574 = true then ((spec_pcBound.f a2).bind fun t575 => (if t575 = true then (if (l1.length : Int) = (l0_0.length : Int) then ((spec_pcRises.f k l0_0 l1 a2).bind fun t576 => (some (t576, true))) else (some (false, false))) else (some (false, false)))) else (some (false, false)))
theorem spec_IsArray.mono : ∀ a0 a1 a2 k, LeO (spec_IsArray.f k a0 a1 a2) (spec_IsArray.f (k + 1) a0 a1 a2) := by
 intro a0 a1 a2 k;unfold spec_IsArray.f
 repeat' first
  |(with_reducible exact spec_pcRises.mono _ _ _ _)
  |(with_reducible exact spec_poGood.mono _ _)
  |(with_reducible exact LeO.refl _)
  |(with_reducible exact LeO.none _)
  |(with_reducible refine LeO.ite ?_ ?_)
  |(with_reducible refine LeO.bind ?_ (fun _=> ?_))
  |exact spec_pcRises.mono _ _ _ _
  |exact spec_poGood.mono _ _
  |exact LeO.none _
  |refine LeO.ite ?_ ?_
  |refine LeO.bind ?_ (fun _=> ?_)
set_option maxHeartbeats 8000000 in
set_option maxRecDepth 100000 in
theorem spec_IsArray.calls (k : Nat) (A0_0 : Option Addr) (c0_0 : Nat) (l0_0 : List Int) (A1 : Option Addr) (c1 : Nat) (l1 : List Int) (a2 : Int) (r1 : Bool) (r2 : Bool) (w : World) (hr0_0 : Kd.C (Kd.int .i64) w A0_0 l0_0.length l0_0) (hc0_0 : l0_0.length ≤ c0_0) (hr1 : Kd.C (Kd.int .i64) w A1 l1.length l1) (hc1 : l1.length ≤ c1) (h : spec_IsArray.f k l0_0 l1 a2 = some (r1, r2)) :
 Calls Try.prog 30 #[.agg #[.slice A0_0 l0_0.length c0_0], .slice A1 l1.length c1, .int .i64 a2] w fun e w'=>e= .returned (.tuple #[.bool r1, .bool r2])∧Below w.heap.size w w':=by
 have hu26:=Try.underlying26;have HR0_0:=Aside0.mk hr0_0;have HC0_0:=Aside0.mk hc0_0;clear hr0_0 hc0_0;have HR1:=Aside0.mk hr1;have HC1:=Aside0.mk hc1;clear hr1 hc1;have HB:=Aside0.mk (Below.refl w.heap.size w);have H:((spec_poGood.f k l0_0).bind fun t574=>(if t574=true then ((spec_pcBound.f a2).bind fun t575=>(if t575=true then (if (l1.length:Int)=(l0_0.length:Int) then ((spec_pcRises.f k l0_0 l1 a2).bind fun t576=>(some (t576,true))) else (some (false,false))) else (some (false,false)))) else (some (false,false))))=some (r1,r2):=h;clear h;obtain ⟨t574,A4,H⟩:=bs H;(try dsimp only at H)
 by_cases c5:t574=true
 ·
  subst c5;rw [if_pos rfl] at H;obtain ⟨t575,A6,H⟩:=bs H;(try dsimp only at H)
  by_cases c7:t575=true
  ·
   subst c7;rw [if_pos rfl] at H
   by_cases c8:(l1.length:Int)=(l0_0.length:Int)
   ·
    rw [if_pos c8] at H;have c8b0:((l1.length:Int)==(l0_0.length:Int))=true:=beq_iff_eq.mpr c8;have c8b1:((l1.length:Int) !=(l0_0.length:Int))=false:=bne_eq_false_iff_eq.mpr c8;have c8b2:(l1.length==l0_0.length)=true:=by first|simpa using c8|(simp at c8 ⊢;omega)
    clear c8;obtain ⟨t576,A9,H⟩:=bs H;(try dsimp only at H)
    simp only [Option.some.injEq,Prod.mk.injEq] at H;obtain ⟨rfl,rfl⟩:=H;go_enter Try.func30,Try.ntmps30;go_wp2_with (first|((with_reducible refine gate_dst (N:=3) rfl ?_);(try (refine gate_guard (by rfl) ?_;dsimp only));refine bE (N:=3) (cs:= #[.slice A0_0 l0_0.length c0_0]) (t:=26) ?_;intro gb573 hg w10 hbox hb;have BK573:=Aside0.mk (hbox);have GW573:=Aside0.mk ((by rw [hg];exact (below_size (uB HB)):w.heap.size≤gb573));have GE573:=GW573;replace HB:=Aside0.mk (below_step (uB HB) hb);clear hb hbox hg;have hcz11_0:=bC BK573;have hfz11_0:=blk_frozen BK573.out 0)|(refine gA (some 9) Try.func88 #[.agg #[.slice A0_0 l0_0.length c0_0]] ?_;(with_reducible refine (spec_poGood.calls k _ _ l0_0 true _ (uD HR0_0 HB) HC0_0.out A4.out).mono ?_);rintro e w12 ⟨rfl,hb⟩;refine ⟨_,rfl,?_⟩;replace BK573:=Aside0.mk (blk_below (uK BK573) hb);replace HB:=Aside0.mk (below_step (uB HB) hb);(try clear hb))|(go_at_call 89;(with_reducible refine (spec_pcBound.calls a2 true _ A6.out).mono ?_);rintro e w' ⟨rfl,⟨nd,rfl⟩⟩;have hcz13_0:=bC BK573;have hfz13_0:=blk_frozen BK573.out 0)|(refine gA (some 27) Try.func90 #[.agg #[.slice A0_0 l0_0.length c0_0], .slice A1 l1.length c1, .int .i64 a2] ?_;(with_reducible refine (spec_pcRises.calls k _ _ l0_0 _ _ l1 a2 t576 _ ?side1 HC0_0.out ?side3 HC1.out A9.out).mono ?_);(case side1=>repeat (first|exact (Kd.C_below HR0_0.out (uB HB))|(with_reducible refine Kd.C_alloc ?_ _)|(with_reducible refine Kd.C_drewN ?_ _)|(with_reducible refine Kd.C_drew ?_)));(case side3=>repeat (first|exact (Kd.C_below HR1.out (uB HB))|(with_reducible refine Kd.C_alloc ?_ _)|(with_reducible refine Kd.C_drewN ?_ _)|(with_reducible refine Kd.C_drew ?_)));rintro e w14 ⟨rfl,hb⟩;refine ⟨_,rfl,?_⟩;replace BK573:=Aside0.mk (blk_below (uK BK573) hb);replace HB:=Aside0.mk (below_step (uB HB) hb);(try clear hb)))
    go_ret2
    exact ⟨by first|rfl|(simp [errW_none,errW_some] <;>rfl)|(simp [*,errW_none,errW_some] <;>rfl),uB HB⟩
   ·
    rw [if_neg c8] at H;have c8b0:((l1.length:Int)==(l0_0.length:Int))=false:=beq_eq_false_iff_ne.mpr c8;have c8b1:((l1.length:Int) !=(l0_0.length:Int))=true:=bne_iff_ne.mpr c8;have c8b2:(l1.length==l0_0.length)=false:=by first|simpa using c8|(simp at c8 ⊢;omega)
    simp only [Option.some.injEq,Prod.mk.injEq] at H;obtain ⟨rfl,rfl⟩:=H;go_enter Try.func30,Try.ntmps30;go_wp2_with (first|((with_reducible refine gate_dst (N:=3) rfl ?_);(try (refine gate_guard (by rfl) ?_;dsimp only));refine bE (N:=3) (cs:= #[.slice A0_0 l0_0.length c0_0]) (t:=26) ?_;intro gb573 hg w15 hbox hb;have BK573:=Aside0.mk (hbox);have GW573:=Aside0.mk ((by rw [hg];exact (below_size (uB HB)):w.heap.size≤gb573));have GE573:=GW573;replace HB:=Aside0.mk (below_step (uB HB) hb);clear hb hbox hg;have hcz16_0:=bC BK573;have hfz16_0:=blk_frozen BK573.out 0)|(refine gA (some 9) Try.func88 #[.agg #[.slice A0_0 l0_0.length c0_0]] ?_;(with_reducible refine (spec_poGood.calls k _ _ l0_0 true _ (uD HR0_0 HB) HC0_0.out A4.out).mono ?_);rintro e w17 ⟨rfl,hb⟩;refine ⟨_,rfl,?_⟩;replace BK573:=Aside0.mk (blk_below (uK BK573) hb);replace HB:=Aside0.mk (below_step (uB HB) hb);(try clear hb))|(go_at_call 89;(with_reducible refine (spec_pcBound.calls a2 true _ A6.out).mono ?_);rintro e w' ⟨rfl,⟨nd,rfl⟩⟩;have hcz18_0:=bC BK573;have hfz18_0:=blk_frozen BK573.out 0))
    go_ret2
    exact ⟨by first|rfl|(simp [errW_none,errW_some] <;>rfl)|(simp [*,errW_none,errW_some] <;>rfl),uB HB⟩
  ·
   replace c7:=Bool.eq_false_iff.mpr c7;subst c7;rw [if_neg (show ¬ (false=true) by decide)] at H;simp only [Option.some.injEq,Prod.mk.injEq] at H;obtain ⟨rfl,rfl⟩:=H;go_enter Try.func30,Try.ntmps30;go_wp2_with (first|((with_reducible refine gate_dst (N:=3) rfl ?_);(try (refine gate_guard (by rfl) ?_;dsimp only));refine bE (N:=3) (cs:= #[.slice A0_0 l0_0.length c0_0]) (t:=26) ?_;intro gb573 hg w19 hbox hb;have BK573:=Aside0.mk (hbox);have GW573:=Aside0.mk ((by rw [hg];exact (below_size (uB HB)):w.heap.size≤gb573));have GE573:=GW573;replace HB:=Aside0.mk (below_step (uB HB) hb);clear hb hbox hg;have hcz20_0:=bC BK573;have hfz20_0:=blk_frozen BK573.out 0)|(refine gA (some 9) Try.func88 #[.agg #[.slice A0_0 l0_0.length c0_0]] ?_;(with_reducible refine (spec_poGood.calls k _ _ l0_0 true _ (uD HR0_0 HB) HC0_0.out A4.out).mono ?_);rintro e w21 ⟨rfl,hb⟩;refine ⟨_,rfl,?_⟩;replace BK573:=Aside0.mk (blk_below (uK BK573) hb);replace HB:=Aside0.mk (below_step (uB HB) hb);(try clear hb))|(go_at_call 89;(with_reducible refine (spec_pcBound.calls a2 false _ A6.out).mono ?_);rintro e w' ⟨rfl,⟨nd,rfl⟩⟩))
   go_ret2
   exact ⟨by first|rfl|(simp [errW_none,errW_some] <;>rfl)|(simp [*,errW_none,errW_some] <;>rfl),uB HB⟩
 ·
  replace c5:=Bool.eq_false_iff.mpr c5;subst c5;rw [if_neg (show ¬ (false=true) by decide)] at H;simp only [Option.some.injEq,Prod.mk.injEq] at H;obtain ⟨rfl,rfl⟩:=H;go_enter Try.func30,Try.ntmps30;go_wp2_with (first|((with_reducible refine gate_dst (N:=3) rfl ?_);(try (refine gate_guard (by rfl) ?_;dsimp only));refine bE (N:=3) (cs:= #[.slice A0_0 l0_0.length c0_0]) (t:=26) ?_;intro gb573 hg w22 hbox hb;have BK573:=Aside0.mk (hbox);have GW573:=Aside0.mk ((by rw [hg];exact (below_size (uB HB)):w.heap.size≤gb573));have GE573:=GW573;replace HB:=Aside0.mk (below_step (uB HB) hb);clear hb hbox hg;have hcz23_0:=bC BK573;have hfz23_0:=blk_frozen BK573.out 0)|(refine gA (some 9) Try.func88 #[.agg #[.slice A0_0 l0_0.length c0_0]] ?_;(with_reducible refine (spec_poGood.calls k _ _ l0_0 false _ (uD HR0_0 HB) HC0_0.out A4.out).mono ?_);rintro e w24 ⟨rfl,hb⟩;refine ⟨_,rfl,?_⟩;replace BK573:=Aside0.mk (blk_below (uK BK573) hb);replace HB:=Aside0.mk (below_step (uB HB) hb);(try clear hb)))
  go_ret2
  exact ⟨by first|rfl|(simp [errW_none,errW_some] <;>rfl)|(simp [*,errW_none,errW_some] <;>rfl),uB HB⟩
def impl_areSides.f (a0 : Int) (a1 : Int) (a2 : Int) : Option (Bool) := (impl_within.f a0 1 a2).bind fun t577 => (if t577 = true then ((impl_within.f a1 1 a2).bind fun t578 => (if t578 = true then (some (decide ((wrap64 (a0 * a1)) ≤ a2))) else (some false))) else (some false))
set_option maxHeartbeats 8000000 in
set_option maxRecDepth 100000 in
theorem impl_areSides.calls (a0 : Int) (a1 : Int) (a2 : Int) (r : Bool) (w : World) (h : impl_areSides.f a0 a1 a2 = some r) :
 Calls Try.prog 91 #[.int .i64 a0, .int .i64 a1, .int .i64 a2] w fun e w'=>e= .returned (.bool r)∧Drawn0 w w':=by
 have H:((impl_within.f a0 1 a2).bind fun t577=>(if t577=true then ((impl_within.f a1 1 a2).bind fun t578=>(if t578=true then (some (decide ((wrap64 (a0*a1))≤a2))) else (some false))) else (some false)))=some r:=h;clear h;obtain ⟨t577,A4,H⟩:=bs H;(try dsimp only at H)
 by_cases c5:t577=true
 ·
  subst c5;rw [if_pos rfl] at H;obtain ⟨t578,A6,H⟩:=bs H;(try dsimp only at H)
  by_cases c7:t578=true
  ·
   subst c7;rw [if_pos rfl] at H;obtain rfl:=Option.some.inj H;go_enter Try.func91,Try.ntmps91;go_wp2_with (first|(refine gA (some 9) Try.func81 #[.int .i64 a0, .int .i64 1, .int .i64 a2] ?_;(with_reducible refine (impl_within.calls a0 1 a2 true _ A4.out).mono ?_);rintro e w' ⟨rfl,⟨nd,rfl⟩⟩;refine ⟨_,rfl,?_⟩)|(go_at_call 81;(with_reducible refine (impl_within.calls a1 1 a2 true _ A6.out).mono ?_);rintro e w' ⟨rfl,⟨nd,rfl⟩⟩))
   go_ret
   exact ⟨by first|rfl|(simp;done)|(simp [*];done),by repeat (first|exact Drawn0.refl _|apply Drawn0.step)⟩
  ·
   replace c7:=Bool.eq_false_iff.mpr c7;subst c7;rw [if_neg (show ¬ (false=true) by decide)] at H;obtain rfl:=Option.some.inj H;go_enter Try.func91,Try.ntmps91;go_wp2_with (first|(refine gA (some 9) Try.func81 #[.int .i64 a0, .int .i64 1, .int .i64 a2] ?_;(with_reducible refine (impl_within.calls a0 1 a2 true _ A4.out).mono ?_);rintro e w' ⟨rfl,⟨nd,rfl⟩⟩;refine ⟨_,rfl,?_⟩)|(go_at_call 81;(with_reducible refine (impl_within.calls a1 1 a2 false _ A6.out).mono ?_);rintro e w' ⟨rfl,⟨nd,rfl⟩⟩))
   go_ret
   exact ⟨by first|rfl|(simp;done)|(simp [*];done),by repeat (first|exact Drawn0.refl _|apply Drawn0.step)⟩
 ·
  replace c5:=Bool.eq_false_iff.mpr c5;subst c5;rw [if_neg (show ¬ (false=true) by decide)] at H;obtain rfl:=Option.some.inj H;go_enter Try.func91,Try.ntmps91;go_wp2_with (first|(refine gA (some 9) Try.func81 #[.int .i64 a0, .int .i64 1, .int .i64 a2] ?_;(with_reducible refine (impl_within.calls a0 1 a2 false _ A4.out).mono ?_);rintro e w' ⟨rfl,⟨nd,rfl⟩⟩;refine ⟨_,rfl,?_⟩))
  go_ret
  exact ⟨by first|rfl|(simp;done)|(simp [*];done),by repeat (first|exact Drawn0.refl _|apply Drawn0.step)⟩
end Go.Proofs.Ytkgngggppcmpfaa.L
end
section
namespace Go.Proofs.Ytkgngggppcmpfaa.L
open Go.RowKit Go.Proofs.YtkgngggppcmpfaaW.PrintWords Go.Proofs.YtkgngggppcmpfaaW.PrintLast Go.Proofs.YtkgngggppcmpfaaW.PrintMore
attribute [local go_sem] max2_int min2_int max_two min_two max_three min_three max_four min_four
set_option linter.unusedVariables false
set_option linter.unusedSimpArgs false
class Fn2 where
 p:Int→Int→Option Bool
def impl_rectangle_1.f [Fn2] (a0 : Int) (a1 : Int) : Option Bool := Fn2.p a0 a1
end Go.Proofs.Ytkgngggppcmpfaa.L
end
section
namespace Go.Proofs.Ytkgngggppcmpfaa.L
open Go.RowKit Go.Proofs.YtkgngggppcmpfaaW.PrintWords Go.Proofs.YtkgngggppcmpfaaW.PrintLast Go.Proofs.YtkgngggppcmpfaaW.PrintMore Go.Proofs.Ytkgngggppcmpfaa.X
attribute [local go_sem] max2_int min2_int max_two min_two max_three min_three max_four min_four
set_option linter.unusedVariables false
variable [Fn2]
set_option linter.unusedSimpArgs false
mutual
def impl_made.l0 : Nat → Int → Int → List Int → Option (List Int)
 |0,_,_,_=>none
 |k+1,x11,x12,x584000=>if x12<x11 then (impl_made.l1 k x12 x11 x12 x12 0 x584000) else (some x584000)
def impl_made.l1 : Nat → Int → Int → Int → Int → Int → List Int → Option (List Int)
 |0,_,_,_,_,_,_=>none
 |k+1,x6,x11,x12,x15,x16,x584000=>if x16<x15 then ((impl_rectangle_1.f x16 x6).bind fun t584=>(if t584=true then (if 0≤x6 then (if x6<(x584000.length:Int) then (if 0≤x16 then (impl_made.l1 k x6 x11 x12 x15 (wrap64 (x16+1)) (x584000.set (x6:Int).toNat (Go.bits .or .i64 (rd x584000 x6) (shl .i64 1 x16)))) else (none)) else (none)) else (none)) else (impl_made.l1 k x6 x11 x12 x15 (wrap64 (x16+1)) x584000))) else (impl_made.l0 k x11 (wrap64 (x12+1)) x584000)
end
def impl_made.f (k : Nat) (a0 : Int) (a1 : Int) : Option (List Int) := if 0 ≤ a0 then (if (a0 : Int).toNat ≤ 35184372088832 then (impl_made.l0 k a0 0 (List.replicate (a0 : Int).toNat 0)) else (none)) else (none)
theorem impl_made.mono_l : ∀ k, (∀ y0 y1 y2, LeO (impl_made.l0 k y0 y1 y2) (impl_made.l0 (k + 1) y0 y1 y2)) ∧ (∀ y0 y1 y2 y3 y4 y5, LeO (impl_made.l1 k y0 y1 y2 y3 y4 y5) (impl_made.l1 (k + 1) y0 y1 y2 y3 y4 y5))
 |0=>⟨fun _ _ _ r h=>by simp [impl_made.l0] at h,fun _ _ _ _ _ _ r h=>by simp [impl_made.l1] at h⟩
 |k+1=>by
  obtain ⟨ih0,ih1⟩:=impl_made.mono_l k;refine ⟨?_,?_⟩
  ·
   intro y0 y1 y2;unfold impl_made.l0
   repeat' first
   |(with_reducible exact ih0 _ _ _)
   |(with_reducible exact ih1 _ _ _ _ _ _)
   |(with_reducible exact LeO.refl _)
   |(with_reducible exact LeO.none _)
   |(with_reducible refine LeO.ite ?_ ?_)
   |(with_reducible refine LeO.bind ?_ (fun _=> ?_))
   |exact ih0 _ _ _
   |exact ih1 _ _ _ _ _ _
   |exact LeO.none _
   |refine LeO.ite ?_ ?_
   |refine LeO.bind ?_ (fun _=> ?_)
  ·
   intro y0 y1 y2 y3 y4 y5;unfold impl_made.l1
   repeat' first
   |(with_reducible exact ih0 _ _ _)
   |(with_reducible exact ih1 _ _ _ _ _ _)
   |(with_reducible exact LeO.refl _)
   |(with_reducible exact LeO.none _)
   |(with_reducible refine LeO.ite ?_ ?_)
   |(with_reducible refine LeO.bind ?_ (fun _=> ?_))
   |exact ih0 _ _ _
   |exact ih1 _ _ _ _ _ _
   |exact LeO.none _
   |refine LeO.ite ?_ ?_
   |refine LeO.bind ?_ (fun _=> ?_)
theorem impl_made.mono : ∀ a0 a1 k, LeO (impl_made.f k a0 a1) (impl_made.f (k + 1) a0 a1) := by
 intro a0 a1 k;obtain ⟨ih0,ih1⟩:=impl_made.mono_l k;unfold impl_made.f
 repeat' first
  |(with_reducible exact ih0 _ _ _)
  |(with_reducible exact ih1 _ _ _ _ _ _)
  |(with_reducible exact LeO.refl _)
  |(with_reducible exact LeO.none _)
  |(with_reducible refine LeO.ite ?_ ?_)
  |(with_reducible refine LeO.bind ?_ (fun _=> ?_))
  |exact ih0 _ _ _
  |exact ih1 _ _ _ _ _ _
  |exact LeO.none _
  |refine LeO.ite ?_ ?_
  |refine LeO.bind ?_ (fun _=> ?_)
def impl_made.T9 : Bool × List (List Nat × List Nat) := (true, [([], []), ([0], [0]), ([], []), ([1, 2], [1, 2]), ([3], [3]), ([], []), ([5], [5]), ([4, 6], [4, 6]), ([1, 2, 0, 1, 2, 3, 4, 5, 6, 7], [1, 2]), ([8, 7, 0, 1, 2, 3, 4, 5, 6, 7], [7, 8])])
def impl_made.B9 : List Nat := [0, 1, 0, 7, 15, 0, 32, 127, 255, 511]
omit [Fn2] in
theorem impl_made.tab9 : rtab .any (opsOf Try.f117 9) = impl_made.T9 := by kernel_rfl
omit [Fn2] in
theorem impl_made.bits9 : waitsOk impl_made.T9.2 impl_made.B9 = true := by kernel_rfl
set_option maxHeartbeats 8000000 in
set_option maxRecDepth 100000 in
open Go.Proofs.Ytkgngggppcmpfaa.X in
theorem impl_made.calls (gF : Nat) (lbF : Array Value) (eg : ∀ args w, (callFunc gF args).run Try.prog w = .ok (.enter gF args) w) (k : Nat) (a0 : Int) (a1 : Int) (r : List Int) (w : World) (hpF : ∀ x0_ x1_ b, impl_rectangle_1.f x0_ x1_ = some b → Fv Try.prog gF lbF #[.int .i64 x0_, .int .i64 x1_] (.bool b) w) (h : impl_made.f k a0 a1 = some r) :
 Calls Try.prog 117 #[.int .i64 a0, .func (.func gF) #[] lbF] w fun e w'=> ∃ v0_:Value,e= .returned (.agg #[v0_])∧Kd.R (Kd.int .i64) 3 w' w.heap.size (fun _=>True) v0_ r∧Below w.heap.size w w':=by
 have HP:=Aside0.mk hpF;clear hpF;have hu26:=Try.underlying26;have HB:=Aside0.mk (Below.refl w.heap.size w);have H:(if 0≤a0 then (if (a0:Int).toNat≤35184372088832 then (impl_made.l0 k a0 0 (List.replicate (a0:Int).toNat 0)) else (none)) else (none))=some r:=h;clear h
 by_cases c3:0≤a0
 ·
  rw [if_pos c3] at H;have c3b0:=eq_true c3;have c3b1:=decide_eq_true c3;clear c3
  by_cases c4:(a0:Int).toNat≤35184372088832
  ·
   rw [if_pos c4] at H;have c4b0:=eq_true c4;have c4b1:=decide_eq_true c4;clear c4;obtain ⟨y580,hy580⟩: ∃ y_:List Int,y_=(List.replicate (a0:Int).toNat 0):=⟨_,rfl⟩
   replace H:(impl_made.l0 k a0 0 y580)=some r:=by first|(rw [hy580];with_reducible exact H)|(have H2_:=(Option.bind_some _ _).symm.trans H;rw [hy580];with_reducible exact H2_)|(have H2_:=(Option.bind_some _ _).symm.trans H;with_reducible exact H2_)|with_reducible exact H|(rw [hy580];exact H)|exact H
   have Ny580:=Aside0.mk hy580;clear hy580;have H':=Aside0.mk H;clear H;go_enter Try.func117,Try.ntmps117;go_wp2_with (first|(refine bE (N:=4) (cs:= #[.slice none 0 0]) (t:=26) ?_;intro gb579 hg w5 hbox hb;have BK579:=Aside0.mk (hbox);have GW579:=Aside0.mk ((by rw [hg];exact (below_size (uB HB)):w.heap.size≤gb579));have GE579:=GW579;replace HB:=Aside0.mk (below_step (uB HB) hb);clear hb hbox hg)|((with_reducible refine gate_dst (N:=9) rfl ?_);refine Kd.R_make (Kd.int .i64) _ 3 rfl (N:=9) rfl 24 _ _ rfl a0 rfl rfl Try.underlying24 (.int .i64 0) 8 info3 rfl (by decide) (by omega) 0 (ok:=fun _=>True) (okp:=fun _=>True) rfl (fun _ hk=>hk) trivial (of_decide_eq_true (by first|(with_reducible assumption)|assumption)) (Nat.le_trans (Nat.mul_le_mul_right _ (of_decide_eq_true (by first|(with_reducible assumption)|assumption):a0.toNat≤35184372088832)) (by omega)) (Below.refl _ _) (Nat.le_refl _) ?_;intro v581 w6 ho7 hb hg_ hnew_;clear hg_ hnew_;(first|rw [←Ny580.out] at ho7|(simp only [Int.reduceToNat] at ho7;rw [←Ny580.out] at ho7));have HO582:=Aside0.mk (Kd.R_lower ho7 (below_size (uB HB)));replace BK579:=Aside0.mk (blk_below (uK BK579) hb);replace HB:=Aside0.mk (below_step (uB HB) hb);clear hb ho7;obtain ⟨Ao8,co8,eo8⟩:=Kd.R_slice HO582.out;subst eo8)|(refine bE (N:=5) (cs:= #[.slice none 0 0]) (t:=26) ?_;intro gb583 hg w9 hbox hb;replace HO582:=Aside0.mk (Kd.R_below (uR HO582) hb);have BK583:=Aside0.mk (hbox);have GW583:=Aside0.mk ((by rw [hg];exact (below_size (uB HB)):w.heap.size≤gb583));have GE583:=GW583;replace HB:=Aside0.mk (below_step (uB HB) hb);have NB579_583:=Aside0.mk ((by rw [hg];exact Nat.ne_of_lt (blk_lt (uK BK579)):gb579≠gb583));have NB583_579:=Aside0.mk ((by rw [hg];exact Nat.ne_of_gt (blk_lt (uK BK579)):gb583≠gb579));replace BK579:=Aside0.mk (blk_below (uK BK579) hb);clear hb hbox hg;have hnb10:=NB583_579.out;have hnc10:=NB579_583.out;have hcz11_0:=bC BK583;have hfz11_0:=blk_frozen BK583.out 0))
   go_loopg [12] k (fun kq v12 w'=> ∃ (x12_1:Int) (x584000_1:List Int) (u584000:Value),v12= .int .i64 x12_1∧Aside0 (impl_made.l0 kq a0 x12_1 x584000_1=some r)∧Aside0 (kq≤k)∧Aside0 (Kd.R (Kd.int .i64) 3 w' w.heap.size (fun _=>True) u584000 x584000_1)∧Aside0 (w'.heap[gb579]? =some (.cells #[(.slice none 0 0)] 26 (0,0)))∧Aside0 (w'.heap[gb583]? =some (.cells #[u584000] 26 (0,0)))∧Aside0 (Below w.heap.size w w'))
   case atStart=>exact ⟨(0),(y580),(.slice Ao8 y580.length co8),(by first|rfl|(simp;done)|(simp [*];done)),H',⟨Nat.le_refl _⟩,⟨by (with_reducible repeat (first|apply Kd.R_alloc|apply Kd.R_drewN|apply Kd.R_drew));exact Kd.R_mono (Kd.R_far (p:=⟨gb583,0,none⟩) (Kd.R_types HO582.out BK583.out (by decide)) (fun _ hk=>hk.2) (.slice Ao8 y580.length co8)) (fun _ hk=>trivial)⟩,⟨by (with_reducible repeat (first|refine blk_drewN ?_ _|refine blk_drew ?_|refine blk_alloc ?_ _));refine blk_far ?_ NB579_583.out _;(with_reducible repeat (first|refine blk_drewN ?_ _|refine blk_drew ?_|refine blk_alloc ?_ _));exact BK579.out⟩,⟨by (with_reducible repeat (first|refine blk_drewN ?_ _|refine blk_drew ?_|refine blk_alloc ?_ _));refine blk_put (cs:= #[.slice none 0 0]) ?_ 0 _ rfl;(with_reducible repeat (first|refine blk_drewN ?_ _|refine blk_drew ?_|refine blk_alloc ?_ _));exact BK583.out⟩,⟨by repeat (first|(with_reducible first|exact HB.out|apply below_alloc|apply pw_below_drewN|apply below_drew1|refine below_set ?_ GE579.out|refine below_set ?_ GE583.out)|exact HB.out)⟩⟩
   case round=>
    clear H'
    try clear c1
    try clear p2
    try clear c3
    try clear c3b0
    try clear c3b1
    try clear c4
    try clear c4b0
    try clear c4b1
    try clear c10
    try clear c11
    try clear hcz11_0
    try clear hfz11_0
    obtain ⟨x12_1,x584000_1,u584000,rfl,HA,HK1,HO_584000,BK579,BK583,HB⟩:=hrel;cases gk with
    |zero=>exact absurd HA.out (by simp [impl_made.l0])
    |succ k1=>
     have H:=HA.out;clear HA;simp only [impl_made.l0] at H
     by_cases c12:x12_1<a0
     ·
      rw [if_pos c12] at H;have c12b0:=decide_eq_true c12;clear c12;have H':=Aside0.mk H;clear H;go_wp2
      go_loopg [16] k1 (fun kq v16 w'=> ∃ (x16_2:Int) (x584000_2:List Int) (u584000:Value),v16= .int .i64 x16_2∧Aside0 (impl_made.l1 kq x12_1 a0 x12_1 x12_1 x16_2 x584000_2=some r)∧Aside0 (kq≤k1)∧Aside0 (Kd.R (Kd.int .i64) 3 w' w.heap.size (fun _=>True) u584000 x584000_2)∧Aside0 (w'.heap[gb579]? =some (.cells #[(.slice none 0 0)] 26 (0,0)))∧Aside0 (w'.heap[gb583]? =some (.cells #[u584000] 26 (0,0)))∧Aside0 (Below w.heap.size w w'))
      case atStart=>exact ⟨(0),(x584000_1),(u584000),(by first|rfl|(simp;done)|(simp [*];done)),H',⟨Nat.le_refl _⟩,⟨uR HO_584000⟩,⟨uK BK579⟩,⟨uK BK583⟩,⟨uB HB⟩⟩
      case round=>
       clear H'
       try clear c1
       try clear p2
       try clear c3
       try clear c3b0
       try clear c3b1
       try clear c4
       try clear c4b0
       try clear c4b1
       try clear c10
       try clear c11
       try clear c12
       try clear c12b0
       try clear hcz11_0
       try clear hfz11_0
       try clear p2
       obtain ⟨x16_2,x584000_2,u584000,rfl,HA,HK2,HO_584000,BK579,BK583,HB⟩:=hrel;cases gk with
       |zero=>exact absurd HA.out (by simp [impl_made.l1])
       |succ k2=>
        have H:=HA.out;clear HA;simp only [impl_made.l1] at H
        by_cases c13:x16_2<x12_1
        ·
         rw [if_pos c13] at H;have c13b0:=decide_eq_true c13;clear c13;obtain ⟨t584,A14,H⟩:=bs H;(try dsimp only at H)
         by_cases c15:t584=true
         ·
          subst c15;rw [if_pos rfl] at H
          by_cases c16:0≤x12_1
          ·
           rw [if_pos c16] at H;have c16b0:=decide_eq_true c16;clear c16
           by_cases c17:x12_1<(x584000_2.length:Int)
           ·
            rw [if_pos c17] at H;have c17b0:=decide_eq_true c17;clear c17
            by_cases c18:0≤x16_2
            ·
             rw [if_pos c18] at H;have c18b0:=eq_true c18;have c18b1:=decide_eq_true c18;clear c18;obtain ⟨ji19,hji19⟩: ∃ j_:Int,(shl .i64 1 x16_2)=j_:=⟨_,rfl⟩
             replace H:(impl_made.l1 k2 x12_1 a0 x12_1 x12_1 (wrap64 (x16_2+1)) (x584000_2.set (x12_1:Int).toNat (Go.bits .or .i64 (rd x584000_2 x12_1) (ji19))))=some r:=by first|(rw [hji19] at H;exact H)|(simp only [hji19] at H ⊢;exact H)
             (try rw [hji19] at A14)
             have hji19_:(IntKind.i64.wrap (1*2 ^ min x16_2.toNat 64))=ji19:=hji19;have hji19z:x16_2≤64→(IntKind.i64.wrap (1*2 ^ x16_2.toNat))=ji19:=shl_small hji19;have hji19u:(IntKind.i64.wrap (2 ^ min x16_2.toNat 64))=ji19:=by have h_:=hji19_;rw [Int.one_mul] at h_;exact h_
             have hji19v:x16_2≤64→(IntKind.i64.wrap (2 ^ x16_2.toNat))=ji19:=fun hle_=>by have h_:=hji19z hle_;rw [Int.one_mul] at h_;exact h_
             have hji19y:(wrap64 (1*2 ^ min x16_2.toNat 64))=ji19:=(i64_w _).symm.trans hji19_;have hji19x:x16_2≤64→(wrap64 (1*2 ^ x16_2.toNat))=ji19:=fun h_=>(i64_w _).symm.trans (hji19z h_)
             obtain ⟨y586,hy586⟩: ∃ y_:List Int,y_=(x584000_2.set (x12_1:Int).toNat (Go.bits .or .i64 (rd x584000_2 x12_1) (ji19))):=⟨_,rfl⟩
             replace H:(impl_made.l1 k2 x12_1 a0 x12_1 x12_1 (wrap64 (x16_2+1)) y586)=some r:=by first|(rw [hy586];with_reducible exact H)|(have H2_:=(Option.bind_some _ _).symm.trans H;rw [hy586];with_reducible exact H2_)|(have H2_:=(Option.bind_some _ _).symm.trans H;with_reducible exact H2_)|with_reducible exact H|(rw [hy586];exact H)|exact H
             have Ny586:=Aside0.mk hy586;clear hy586;have H':=Aside0.mk H;clear H
             try go_wp2_with (first|(go_at_fn gF;(with_reducible refine (Fv.calls (HP.out _ _ _ A14.out) (uB HB)).mono ?_);rintro e w21 ⟨rfl,hb⟩;replace HO_584000:=Aside0.mk (Kd.R_below (uR HO_584000) hb);replace BK579:=Aside0.mk (blk_below (uK BK579) hb);replace BK583:=Aside0.mk (blk_below (uK BK583) hb);replace HB:=Aside0.mk (below_step (uB HB) hb);(try clear hb)))
             replace HO_584000:=Aside0.mk (Kd.R_drew HO_584000.out);replace BK579:=Aside0.mk (blk_drew BK579.out);replace BK583:=Aside0.mk (blk_drew BK583.out);replace HB:=Aside0.mk (below_drew1 HB.out);obtain ⟨Ao23,co23,eo23⟩:=Kd.R_slice HO_584000.out
             (first|subst eo23|(injection eo23 with f1_ f2_ f3_;have f4_:=f1_.symm;have f5_:=f3_.symm;clear f1_ f2_ f3_;subst f4_;subst f5_))
             have p585:0≤(x12_1:Int):=of_decide_eq_true (by first|(with_reducible assumption)|assumption);have q585:x12_1<(x584000_2.length:Int):=of_decide_eq_true (by first|(with_reducible assumption)|assumption);obtain ⟨ad585,e585,hx585_0⟩:=Kd.at_int (Kd.R_reads' HO_584000.out).2.2 x12_1 p585 q585;cases e585;replace p585:=eq_true p585;replace q585:=eq_true q585;have p20:0≤(x12_1:Int):=of_decide_eq_true (by first|(with_reducible assumption)|assumption);have q20:(x12_1:Int)<((x584000_2.length:Int):Int):=of_decide_eq_true (by first|(with_reducible assumption)|assumption);obtain ⟨go20,co20,eo20,gb20,gl20,cl20,HG20⟩:=Kd.R_form HO_584000.out (by omega)
             (first|cases eo20|(injection eo20 with ea_ en_ ec_;(first|subst ea_|(injection ea_ with ea_;subst ea_));subst ec_;clear en_))
             have GB20:=Aside0.mk gb20;have GG20:=Aside0.mk HG20;clear gb20 gl20 HG20
             (first|simp only [add_plain] at hx585_0|skip)
             obtain ⟨hx20_0,hf20_0⟩:=Kd.R_celln 0 HO_584000.out (x12_1:Int) p20 q20;replace p20:=eq_true p20;replace q20:=eq_true q20;have HP24:=Kd.R_putn HO_584000.out (x12_1:Int) (Go.bits .or .i64 (rd x584000_2 x12_1) (ji19));rw [←Ny586.out] at HP24;have HQ24:=Aside0.mk HP24;clear HP24;refine sU (n:=10) (S:=fun w'=>w'.cell? ⟨gb583,0,none⟩=some (.slice (some ⟨go20,0,none⟩) x584000_2.length co23)∧w'.cell? ⟨go20,(x12_1).toNat,none⟩=some (.int .i64 (rd x584000_2 x12_1))) (ds:= [9]) ⟨(blk_cell BK583.out 0).trans rfl,hx585_0⟩ (fun hHeld=> ?_);refine with_tabW impl_made.tab9 impl_made.bits9 (fun HT_ HW_=> ?_);generalize w21.drew=w22 at HO_584000 BK579 BK583 HB GG20 HQ24 hf20_0 hx20_0 hx585_0 hHeld ⊢;refine pU 0 23 ?_;refine pU 2 25 ?_;refine pU 5 28 ?_;refine pU 6 29 ?_;refine tW 1 24 hHeld ?_;refine pU 3 26 ?_;refine tW 4 27 hHeld ?_;refine pU 7 30 ?_;refine pU 8 31 ?_;refine lU 9 none fun K hK=> ?_
             refine sK ?_;refine hK.out _ _ ?_;clear hK K;refine dU ?_
             try go_wp2
             go_roundg k2
             case measure=>have:=HK1.out;have:=HK2.out;omega
             case rel=>exact ⟨(wrap64 (x16_2+1)),(y586),(.slice (some ⟨go20,0,none⟩) x584000_2.length co23),(by first|rfl|(simp;done)|(simp [*];done)),H',⟨by have:=HK1.out;have:=HK2.out;omega⟩,⟨uR HQ24⟩,⟨by (with_reducible repeat (first|refine blk_drewN ?_ _|refine blk_drew ?_|refine blk_alloc ?_ _));refine blk_far ?_ (by have h_:=Kd.R_ne HO_584000.out BK579.out (by decide);intro e_;exact h_ (by rw [e_];rfl)) _;(with_reducible repeat (first|refine blk_drewN ?_ _|refine blk_drew ?_|refine blk_alloc ?_ _));exact BK579.out⟩,⟨by (with_reducible repeat (first|refine blk_drewN ?_ _|refine blk_drew ?_|refine blk_alloc ?_ _));refine blk_far ?_ (by have h_:=Kd.R_ne HO_584000.out BK583.out (by decide);intro e_;exact h_ (by rw [e_];rfl)) _;(with_reducible repeat (first|refine blk_drewN ?_ _|refine blk_drew ?_|refine blk_alloc ?_ _));exact BK583.out⟩,⟨by repeat (first|(with_reducible first|exact HB.out|apply below_alloc|apply pw_below_drewN|apply below_drew1|refine below_set ?_ GB20.out|refine below_set ?_ GE579.out|refine below_set ?_ GE583.out)|exact HB.out)⟩⟩
            ·
             rw [if_neg c18] at H;exact absurd H (by simp)
           ·
            rw [if_neg c17] at H;exact absurd H (by simp)
          ·
           rw [if_neg c16] at H;exact absurd H (by simp)
         ·
          replace c15:=Bool.eq_false_iff.mpr c15;subst c15;rw [if_neg (show ¬ (false=true) by decide)] at H;have H':=Aside0.mk H;clear H;go_wp2_with (first|(go_at_fn gF;(with_reducible refine (Fv.calls (HP.out _ _ _ A14.out) (uB HB)).mono ?_);rintro e w25 ⟨rfl,hb⟩;replace HO_584000:=Aside0.mk (Kd.R_below (uR HO_584000) hb);replace BK579:=Aside0.mk (blk_below (uK BK579) hb);replace BK583:=Aside0.mk (blk_below (uK BK583) hb);replace HB:=Aside0.mk (below_step (uB HB) hb);(try clear hb)));go_roundg k2
          case measure=>have:=HK1.out;have:=HK2.out;omega
          case rel=>exact ⟨(wrap64 (x16_2+1)),(x584000_2),(u584000),(by first|rfl|(simp;done)|(simp [*];done)),H',⟨by have:=HK1.out;have:=HK2.out;omega⟩,⟨uR HO_584000⟩,⟨uK BK579⟩,⟨uK BK583⟩,⟨uB HB⟩⟩
        ·
         rw [if_neg c13] at H;have c13b0:=decide_eq_false c13;clear c13;have H':=Aside0.mk H;clear H;go_wp2;go_roundg k2
         case measure=>have:=HK1.out;have:=HK2.out;omega
         case rel=>exact ⟨(wrap64 (x12_1+1)),(x584000_2),(u584000),(by first|rfl|(simp;done)|(simp [*];done)),H',⟨by have:=HK1.out;have:=HK2.out;omega⟩,⟨uR HO_584000⟩,⟨uK BK579⟩,⟨uK BK583⟩,⟨uB HB⟩⟩
     ·
      rw [if_neg c12] at H;have c12b0:=decide_eq_false c12;clear c12;obtain rfl:=Option.some.inj H;have hnb26:=NB583_579.out;have hnc26:=NB579_583.out;have hcz27_0:=bC BK583;have hfz27_0:=blk_frozen BK583.out 0;obtain ⟨Ao28,co28,eo28⟩:=Kd.R_slice HO_584000.out;subst eo28;have hcz29_0:=bC BK579;have hfz29_0:=blk_frozen BK579.out 0;go_wp2;refine bodyPost_ret (results_cell_row rfl _ _ gb579 26 #[.slice Ao28 x584000_1.length co28] (0,0) _ rfl (by (with_reducible repeat (first|refine blk_drewN ?_ _|refine blk_drew ?_|refine blk_alloc ?_ _));refine blk_put (cs:= #[.slice none 0 0]) ?_ 0 _ rfl;(with_reducible repeat (first|refine blk_drewN ?_ _|refine blk_drew ?_|refine blk_alloc ?_ _));exact BK579.out) Try.underlying26 rfl (by kernel_rfl)) rfl ?_;exact ⟨_,by first|rfl|(simp [errW_none,errW_some] <;>rfl)|(simp [*,errW_none,errW_some] <;>rfl),by (with_reducible repeat (first|apply Kd.R_alloc|apply Kd.R_drewN|apply Kd.R_drew));exact Kd.R_mono (Kd.R_far (p:=⟨gb579,0,none⟩) (Kd.R_types HO_584000.out BK579.out (by decide)) (fun _ hk=>hk.2) (.slice Ao28 x584000_1.length co28)) (fun _ hk=>trivial),by repeat (first|(with_reducible first|exact HB.out|apply below_alloc|apply pw_below_drewN|apply below_drew1|refine below_set ?_ GE579.out|refine below_set ?_ GE583.out)|exact HB.out)⟩
  ·
   rw [if_neg c4] at H;exact absurd H (by simp)
 ·
  rw [if_neg c3] at H;exact absurd H (by simp)
end Go.Proofs.Ytkgngggppcmpfaa.L
end
section
namespace Go.Proofs.Ytkgngggppcmpfaa.L
open Go.RowKit Go.Proofs.YtkgngggppcmpfaaW.PrintWords Go.Proofs.YtkgngggppcmpfaaW.PrintLast Go.Proofs.YtkgngggppcmpfaaW.PrintMore
attribute [local go_sem] max2_int min2_int max_two min_two max_three min_three max_four min_four
set_option linter.unusedVariables false
set_option linter.unusedSimpArgs false
@[reducible] def impl_rectangle.inst (b : Int) : Fn2 := ⟨fun j i => if b = 0 then none else some (decide (wrap64 (Int.tdiv j b) ≤ wrap64 (Int.tdiv i b)) && decide (Int.tmod j b ≤ Int.tmod i b))⟩
def impl_rectangle.f (k : Nat) (a0 : Int) (a1 : Int) : Option (List Int) := @impl_made.f (impl_rectangle.inst a1) k (wrap64 (a0 * a1)) 0
theorem impl_rectangle.laid (v : World) (o : Obj) : (v.alloc o).heap[v.heap.size]? = some o := by
 unfold World.alloc;simp
theorem impl_rectangle.mono : ∀ a0 a1 k, LeO (impl_rectangle.f k a0 a1) (impl_rectangle.f (k + 1) a0 a1) := fun a0 a1 k => @impl_made.mono (impl_rectangle.inst a1) _ _ k
open Go.Proofs.Ytkgngggppcmpfaa.X in
set_option maxHeartbeats 800000 in
set_option maxRecDepth 100000 in
theorem impl_rectangle.lit (b j i : Int) (t : Bool) (B : Nat) (w : World) (hB : B < w.heap.size) (hc : w.cell? ⟨B, 0, none⟩ = some (.int .i64 b)) (h : (impl_rectangle.inst b).p j i = some t) :
 Fv Try.prog 122 #[.pointer (some ⟨B,0,none⟩)] #[.int .i64 j, .int .i64 i] (.bool t) w:=by
 intro W hb;have hc':W.cell? ⟨B,0,none⟩=some (.int .i64 b):=(hb.cell (p:=⟨B,0,none⟩) hB).trans hc;clear hc hB hb;unfold impl_rectangle.inst at h
 by_cases hb0:b=0
 ·
  simp only [hb0,if_true] at h;cases h
 ·
  have h':some (decide (wrap64 (Int.tdiv j b)≤wrap64 (Int.tdiv i b)) && decide (Int.tmod j b≤Int.tmod i b))=some t:=by simpa only [if_neg hb0] using h
  obtain rfl:=Option.some.inj h';clear h h'
  by_cases h1:wrap64 (Int.tdiv j b)≤wrap64 (Int.tdiv i b)
  ·
   have e1:decide (wrap64 (Int.tdiv j b)≤wrap64 (Int.tdiv i b))=true:=decide_eq_true h1;rw [e1,Bool.true_and];clear h1;go_enter Try.func122,Try.ntmps122;go_wp2
   repeat (go_quiet (fail);try go_wp2)
   go_ret
   exact ⟨rfl,by first|exact Below.refl _ _|exact pw_below_drewN (Below.refl _ _) _⟩
  ·
   have e1:decide (wrap64 (Int.tdiv j b)≤wrap64 (Int.tdiv i b))=false:=decide_eq_false h1;rw [e1,Bool.false_and];clear h1;go_enter Try.func122,Try.ntmps122;go_wp2
   repeat (go_quiet (fail);try go_wp2)
   go_ret
   exact ⟨rfl,by first|exact Below.refl _ _|exact pw_below_drewN (Below.refl _ _) _⟩
open Go.Proofs.Ytkgngggppcmpfaa.X in
set_option maxHeartbeats 800000 in
set_option maxRecDepth 100000 in
theorem impl_rectangle.calls (k : Nat) (a0 : Int) (a1 : Int) (r : List Int) (w : World) (h : impl_rectangle.f k a0 a1 = some r) :
 Calls Try.prog 92 #[.int .i64 a0, .int .i64 a1] w fun e w'=> ∃ v0_:Value,e= .returned (.agg #[v0_])∧Kd.R (Kd.int .i64) 3 w' w.heap.size (fun _=>True) v0_ r∧Below w.heap.size w w':=by
 unfold impl_rectangle.f at h;have HF:=Aside0.mk h;clear h;have hu:=Try.underlying26;go_enter Try.func92,Try.ntmps92;go_wp2_with fail;refine (@impl_made.calls (impl_rectangle.inst a1) 122 #[.pointer (some ⟨w.heap.size,0,none⟩)] (enters_ Try.func122 (by kernel_rfl) rfl) k (wrap64 (a0*a1)) 0 r _ (fun j i b hb=>impl_rectangle.lit a1 j i b w.heap.size _ (by simp;omega) (by simp) hb) HF.out).mono ?_;rintro e w2 ⟨v0,rfl,hR,hb⟩;have hR2:=Kd.R_lower hR (show w.heap.size≤_ by simp;omega);have BK:=Aside0.mk (show w2.heap[w.heap.size+1]? =some (.cells #[.slice none 0 0] 26 (0,0)) from blk_below (g:=w.heap.size+1) (o:= .cells #[.slice none 0 0] 26 (0,0)) (by rw [show w.heap.size+1=(w.alloc (.cells #[.int .i64 a1] 3)).heap.size by simp];exact impl_rectangle.laid _ _) hb);have B2:=Aside0.mk (below_to (below_alloc (below_alloc (Below.refl w.heap.size w) (.cells #[.int .i64 a1] 3)) (.cells #[.slice none 0 0] 26)) hb);obtain ⟨Ao,co,eo⟩:=Kd.R_slice hR2;subst eo;have HO:=Aside0.mk hR2;have hcz:w2.cell? ⟨w.heap.size+1,0,none⟩=some (.slice none 0 0):=(blk_cell BK.out 0).trans rfl;have hfz:=blk_frozen BK.out 0;clear hR hR2 hb;go_wp2;refine bodyPost_ret (results_cell_row rfl _ _ (w.heap.size+1) 26 #[.slice Ao r.length co] (0,0) _ rfl (by (with_reducible repeat (first|refine blk_drewN ?_ _|refine blk_drew ?_|refine blk_alloc ?_ _));refine blk_put (cs:= #[.slice none 0 0]) ?_ 0 _ rfl;(with_reducible repeat (first|refine blk_drewN ?_ _|refine blk_drew ?_|refine blk_alloc ?_ _));exact BK.out) Try.underlying26 rfl (by kernel_rfl)) rfl ?_;exact ⟨_,by first|rfl|(simp;done),by (with_reducible repeat (first|apply Kd.R_alloc|apply Kd.R_drewN|apply Kd.R_drew));exact Kd.R_mono (Kd.R_far (p:=⟨w.heap.size+1,0,none⟩) (Kd.R_types HO.out BK.out (by decide)) (fun _ hk=>hk.2) (.slice Ao r.length co)) (fun _ hk=>trivial),by repeat (first|(with_reducible first|exact B2.out|apply below_alloc|apply pw_below_drewN|apply below_drew1|refine below_set ?_ (Nat.le_succ _))|exact B2.out)⟩
end Go.Proofs.Ytkgngggppcmpfaa.L
end
section
namespace Go.Proofs.Ytkgngggppcmpfaa.L
open Go.RowKit Go.Proofs.YtkgngggppcmpfaaW.PrintWords Go.Proofs.YtkgngggppcmpfaaW.PrintLast Go.Proofs.YtkgngggppcmpfaaW.PrintMore Go.Proofs.Ytkgngggppcmpfaa.X
attribute [local go_sem] max2_int min2_int max_two min_two max_three min_three max_four min_four
set_option linter.unusedVariables false
set_option linter.unusedSimpArgs false
def impl_Rectangle.f (k : Nat) (a0 : Int) (a1 : Int) : Option (List Int × Bool) := (impl_areSides.f a0 a1 10).bind fun t588 => (if t588 = true then ((impl_rectangle.f k a0 a1).bind fun t589 => (some (t589, true))) else (some (([] : List Int), false)))
theorem impl_Rectangle.mono : ∀ a0 a1 k, LeO (impl_Rectangle.f k a0 a1) (impl_Rectangle.f (k + 1) a0 a1) := by
 intro a0 a1 k;unfold impl_Rectangle.f
 repeat' first
  |(with_reducible exact impl_rectangle.mono _ _ _)
  |(with_reducible exact LeO.refl _)
  |(with_reducible exact LeO.none _)
  |(with_reducible refine LeO.ite ?_ ?_)
  |(with_reducible refine LeO.bind ?_ (fun _=> ?_))
  |exact impl_rectangle.mono _ _ _
  |exact LeO.none _
  |refine LeO.ite ?_ ?_
  |refine LeO.bind ?_ (fun _=> ?_)
set_option maxHeartbeats 8000000 in
set_option maxRecDepth 100000 in
theorem impl_Rectangle.calls (k : Nat) (a0 : Int) (a1 : Int) (r1 : List Int) (r2 : Bool) (w : World) (h : impl_Rectangle.f k a0 a1 = some (r1, r2)) :
 Calls Try.prog 31 #[.int .i64 a0, .int .i64 a1] w fun e w'=> ∃ v0_:Value,e= .returned (.tuple #[.agg #[v0_], .bool r2])∧Kd.R (Kd.int .i64) 3 w' w.heap.size (fun _=>True) v0_ r1∧Below w.heap.size w w':=by
 have hu26:=Try.underlying26;have HB:=Aside0.mk (Below.refl w.heap.size w);have H:((impl_areSides.f a0 a1 10).bind fun t588=>(if t588=true then ((impl_rectangle.f k a0 a1).bind fun t589=>(some (t589,true))) else (some (([] :List Int),false))))=some (r1,r2):=h;clear h;obtain ⟨t588,A3,H⟩:=bs H;(try dsimp only at H)
 by_cases c4:t588=true
 ·
  subst c4;rw [if_pos rfl] at H;obtain ⟨t589,A5,H⟩:=bs H;(try dsimp only at H)
  simp only [Option.some.injEq,Prod.mk.injEq] at H;obtain ⟨rfl,rfl⟩:=H;go_enter Try.func31,Try.ntmps31;go_wp2_with (first|(refine bE (N:=4) (cs:= #[.slice none 0 0]) (t:=26) ?_;intro gb587 hg w6 hbox hb;have BK587:=Aside0.mk (hbox);have GW587:=Aside0.mk ((by rw [hg];exact (below_size (uB HB)):w.heap.size≤gb587));have GE587:=GW587;replace HB:=Aside0.mk (below_step (uB HB) hb);clear hb hbox hg)|(refine gA (some 8) Try.func91 #[.int .i64 a0, .int .i64 a1, .int .i64 10] ?_;(with_reducible refine (impl_areSides.calls a0 a1 10 true _ A3.out).mono ?_);rintro e w' ⟨rfl,⟨nd,rfl⟩⟩;refine ⟨_,rfl,?_⟩;(try (rw [drewN_self w6];generalize hq_:World.drewN w6 _=w6;have n0_:Aside0 (w6.heap[gb587]? =some (.cells #[.slice none 0 0] 26 (0,0))):=⟨by rw [←hq_];exact (uK BK587)⟩;have n1_:Aside0 (Below w.heap.size w w6):=⟨by rw [←hq_];exact (uB HB)⟩;clear BK587 HB hq_;have BK587:=n0_;have HB:=n1_;clear n0_ n1_)))|(refine gA (some 13) Try.func92 #[.int .i64 a0, .int .i64 a1] ?_;(with_reducible refine (impl_rectangle.calls k a0 a1 t589 _ A5.out).mono ?_);rintro e w7 ⟨v590,rfl,ho0,hb⟩;refine ⟨_,rfl,?_⟩;have HO591:=Aside0.mk (Kd.R_lower ho0 (below_size (uB HB)));replace BK587:=Aside0.mk (blk_below (uK BK587) hb);replace HB:=Aside0.mk (below_step (uB HB) hb);(try clear hb ho0);obtain ⟨Ao8,co8,eo8⟩:=Kd.R_slice HO591.out;subst eo8;have hcz9_0:=bC BK587;have hfz9_0:=blk_frozen BK587.out 0));refine bodyPost_ret (results_ct rfl _ _ gb587 26 #[.slice Ao8 t589.length co8] (0,0) _ rfl (by (with_reducible repeat (first|refine blk_drewN ?_ _|refine blk_drew ?_|refine blk_alloc ?_ _));refine blk_put (cs:= #[.slice none 0 0]) ?_ 0 _ rfl;(with_reducible repeat (first|refine blk_drewN ?_ _|refine blk_drew ?_|refine blk_alloc ?_ _));exact BK587.out) Try.underlying26 rfl (by kernel_rfl)) rfl ?_;exact ⟨_,by first|rfl|(simp [errW_none,errW_some] <;>rfl)|(simp [*,errW_none,errW_some] <;>rfl),by (with_reducible repeat (first|apply Kd.R_alloc|apply Kd.R_drewN|apply Kd.R_drew));exact Kd.R_mono (Kd.R_far (p:=⟨gb587,0,none⟩) (Kd.R_types HO591.out BK587.out (by decide)) (fun _ hk=>hk.2) (.slice Ao8 t589.length co8)) (fun _ hk=>trivial),by repeat (first|(with_reducible first|exact HB.out|apply below_alloc|apply pw_below_drewN|apply below_drew1|refine below_set ?_ GE587.out)|exact HB.out)⟩
 ·
  replace c4:=Bool.eq_false_iff.mpr c4;subst c4;rw [if_neg (show ¬ (false=true) by decide)] at H;simp only [Option.some.injEq,Prod.mk.injEq] at H;obtain ⟨rfl,rfl⟩:=H;go_enter Try.func31,Try.ntmps31;go_wp2_with (first|(refine bE (N:=4) (cs:= #[.slice none 0 0]) (t:=26) ?_;intro gb587 hg w10 hbox hb;have BK587:=Aside0.mk (hbox);have GW587:=Aside0.mk ((by rw [hg];exact (below_size (uB HB)):w.heap.size≤gb587));have GE587:=GW587;replace HB:=Aside0.mk (below_step (uB HB) hb);clear hb hbox hg)|(refine gA (some 8) Try.func91 #[.int .i64 a0, .int .i64 a1, .int .i64 10] ?_;(with_reducible refine (impl_areSides.calls a0 a1 10 false _ A3.out).mono ?_);rintro e w' ⟨rfl,⟨nd,rfl⟩⟩;refine ⟨_,rfl,?_⟩;(try (rw [drewN_self w10];generalize hq_:World.drewN w10 _=w10;have n0_:Aside0 (w10.heap[gb587]? =some (.cells #[.slice none 0 0] 26 (0,0))):=⟨by rw [←hq_];exact (uK BK587)⟩;have n1_:Aside0 (Below w.heap.size w w10):=⟨by rw [←hq_];exact (uB HB)⟩;clear BK587 HB hq_;have BK587:=n0_;have HB:=n1_;clear n0_ n1_));have hcz11_0:=bC BK587;have hfz11_0:=blk_frozen BK587.out 0));refine bodyPost_ret (results_ct rfl _ _ gb587 26 #[.slice none 0 0] (0,0) _ rfl (by (with_reducible repeat (first|refine blk_drewN ?_ _|refine blk_drew ?_|refine blk_alloc ?_ _));refine blk_put (cs:= #[.slice none 0 0]) ?_ 0 _ rfl;(with_reducible repeat (first|refine blk_drewN ?_ _|refine blk_drew ?_|refine blk_alloc ?_ _));exact BK587.out) Try.underlying26 rfl (by kernel_rfl)) rfl ?_;exact ⟨_,by first|rfl|(simp [errW_none,errW_some] <;>rfl)|(simp [*,errW_none,errW_some] <;>rfl),by first|exact Kd.R_nil _ _ _ _ _|exact Kd.N_nil _ _ _ _ _|exact Kd.V_nil _ _ _ _ _|exact Kd.Q_nil _ _ _ _ _|exact Kd.S_nil _ _ _ _ _,by repeat (first|(with_reducible first|exact HB.out|apply below_alloc|apply pw_below_drewN|apply below_drew1|refine below_set ?_ GE587.out)|exact HB.out)⟩
def laws_nPoset.f (k : Nat) (l0_0 : List Int) (l1_0 : List Int) : Option (Bool) := (laws_nSame.f k l0_0 l1_0).bind fun t594 => (some t594)
theorem laws_nPoset.mono : ∀ a0 a1 k, LeO (laws_nPoset.f k a0 a1) (laws_nPoset.f (k + 1) a0 a1) := by
 intro a0 a1 k;unfold laws_nPoset.f
 repeat' first
  |(with_reducible exact laws_nSame.mono _ _ _)
  |(with_reducible exact LeO.refl _)
  |(with_reducible exact LeO.none _)
  |(with_reducible refine LeO.ite ?_ ?_)
  |(with_reducible refine LeO.bind ?_ (fun _=> ?_))
  |exact laws_nSame.mono _ _ _
  |exact LeO.none _
  |refine LeO.ite ?_ ?_
  |refine LeO.bind ?_ (fun _=> ?_)
set_option maxHeartbeats 8000000 in
set_option maxRecDepth 100000 in
theorem laws_nPoset.calls (k : Nat) (A0_0 : Option Addr) (c0_0 : Nat) (l0_0 : List Int) (A1_0 : Option Addr) (c1_0 : Nat) (l1_0 : List Int) (r : Bool) (w : World) (hr0_0 : Kd.C (Kd.int .i64) w A0_0 l0_0.length l0_0) (hc0_0 : l0_0.length ≤ c0_0) (hr1_0 : Kd.C (Kd.int .i64) w A1_0 l1_0.length l1_0) (hc1_0 : l1_0.length ≤ c1_0) (h : laws_nPoset.f k l0_0 l1_0 = some r) :
 Calls Try.prog 32 #[.agg #[.slice A0_0 l0_0.length c0_0], .agg #[.slice A1_0 l1_0.length c1_0]] w fun e w'=>e= .returned (.bool r)∧Below w.heap.size w w':=by
 have hu26:=Try.underlying26;have HR0_0:=Aside0.mk hr0_0;have HC0_0:=Aside0.mk hc0_0;clear hr0_0 hc0_0;have HR1_0:=Aside0.mk hr1_0;have HC1_0:=Aside0.mk hc1_0;clear hr1_0 hc1_0;have HB:=Aside0.mk (Below.refl w.heap.size w);have H:((laws_nSame.f k l0_0 l1_0).bind fun t594=>(some t594))=some r:=h;clear h;obtain ⟨t594,A3,H⟩:=bs H;(try dsimp only at H)
 obtain rfl:=Option.some.inj H;go_enter Try.func32,Try.ntmps32;go_wp2_with (first|(refine bE (N:=2) (cs:= #[.slice A0_0 l0_0.length c0_0]) (t:=26) ?_;intro gb592 hg w4 hbox hb;have BK592:=Aside0.mk (hbox);have GW592:=Aside0.mk ((by rw [hg];exact (below_size (uB HB)):w.heap.size≤gb592));have GE592:=GW592;replace HB:=Aside0.mk (below_step (uB HB) hb);clear hb hbox hg)|(refine bE (N:=3) (cs:= #[.slice A1_0 l1_0.length c1_0]) (t:=26) ?_;intro gb593 hg w5 hbox hb;have BK593:=Aside0.mk (hbox);have GW593:=Aside0.mk ((by rw [hg];exact (below_size (uB HB)):w.heap.size≤gb593));have GE593:=GW593;replace HB:=Aside0.mk (below_step (uB HB) hb);have NB592_593:=Aside0.mk ((by rw [hg];exact Nat.ne_of_lt (blk_lt (uK BK592)):gb592≠gb593));have NB593_592:=Aside0.mk ((by rw [hg];exact Nat.ne_of_gt (blk_lt (uK BK592)):gb593≠gb592));replace BK592:=Aside0.mk (blk_below (uK BK592) hb);clear hb hbox hg;have hnb6:=NB592_593.out;have hnc6:=NB593_592.out;have hcz7_0:=bC BK592;have hfz7_0:=blk_frozen BK592.out 0;have hcz8_0:=bC BK593;have hfz8_0:=blk_frozen BK593.out 0)|(refine gA (some 9) Try.func12 #[.slice A0_0 l0_0.length c0_0, .slice A1_0 l1_0.length c1_0] ?_;(with_reducible refine (laws_nSame.calls k _ _ l0_0 _ _ l1_0 t594 _ (uD HR0_0 HB) HC0_0.out (uD HR1_0 HB) HC1_0.out A3.out).mono ?_);rintro e w' ⟨rfl,⟨nd,rfl⟩⟩;refine ⟨_,rfl,?_⟩))
 go_ret
 exact ⟨by first|rfl|(simp [errW_none,errW_some] <;>rfl)|(simp [*,errW_none,errW_some] <;>rfl),uB HB⟩
end Go.Proofs.Ytkgngggppcmpfaa.L
end
section
namespace Go.Proofs.Ytkgngggppcmpfaa.L
open Go.RowKit Go.Proofs.YtkgngggppcmpfaaW.PrintWords Go.Proofs.YtkgngggppcmpfaaW.PrintLast Go.Proofs.YtkgngggppcmpfaaW.PrintMore
attribute [local go_sem] max2_int min2_int max_two min_two max_three min_three max_four min_four
set_option linter.unusedVariables false
set_option linter.unusedSimpArgs false
def spec_DrawRowArrayTimes.f (k : Nat) (l0 : List Int) : Option (List Int × List Int × Int × Int) := (spec_l1Cur_array.f k l0 0 0 6).bind fun bt597 => ((spec_l1Cur_among.f l0 bt597.2.2.2.1 bt597.2.2.2.2 (([0, 1, (-1), 4, (-6), 30, 1000, (-1000), 1001] : List Int))).bind fun bt610 => (some (bt597.1, bt597.2.1, bt597.2.2.1, bt610.1)))
theorem spec_DrawRowArrayTimes.mono : ∀ a0 k, LeO (spec_DrawRowArrayTimes.f k a0) (spec_DrawRowArrayTimes.f (k + 1) a0) := by
 intro a0 k;unfold spec_DrawRowArrayTimes.f
 repeat' first
  |(with_reducible exact spec_l1Cur_array.mono _ _ _ _ _)
  |(with_reducible exact LeO.refl _)
  |(with_reducible exact LeO.none _)
  |(with_reducible refine LeO.ite ?_ ?_)
  |(with_reducible refine LeO.bind ?_ (fun _=> ?_))
  |exact spec_l1Cur_array.mono _ _ _ _ _
  |exact LeO.none _
  |refine LeO.ite ?_ ?_
  |refine LeO.bind ?_ (fun _=> ?_)
def spec_DrawRowArrayTimes.T3 : Bool × List (List Nat × List Nat) := (true, [([], []), ([], []), ([], []), ([], []), ([], []), ([3, 4], [3, 4]), ([0, 5, 0], [0]), ([1, 6, 0, 1, 6], [1]), ([2, 7, 0, 1, 2, 6, 7], [2]), ([5, 8, 0, 1, 2, 3, 4, 5, 6, 7, 8], [5])])
def spec_DrawRowArrayTimes.B3 : List Nat := [0, 0, 0, 0, 0, 24, 57, 123, 255, 511]
theorem spec_DrawRowArrayTimes.tab3 : rtab .any (opsOf Try.f34 3) = spec_DrawRowArrayTimes.T3 := by kernel_rfl
theorem spec_DrawRowArrayTimes.bits3 : waitsOk spec_DrawRowArrayTimes.T3.2 spec_DrawRowArrayTimes.B3 = true := by kernel_rfl
set_option maxHeartbeats 8000000 in
set_option maxRecDepth 100000 in
theorem spec_DrawRowArrayTimes.calls (k : Nat) (A0 : Option Addr) (c0 : Nat) (l0 : List Int) (r1 : List Int) (r2 : List Int) (r3 : Int) (r4 : Int) (w : World) (hr0 : Kd.C (Kd.int .u8) w A0 l0.length l0) (hc0 : l0.length ≤ c0) (h : spec_DrawRowArrayTimes.f k l0 = some (r1, r2, r3, r4)) :
 Calls Try.prog 34 #[.slice A0 l0.length c0] w fun e w'=> ∃ v0_ v1_:Value,e= .returned (.tuple #[.agg #[v0_],v1_, .int .i64 r3, .int .i64 r4])∧Kd.R (Kd.int .i64) 3 w' w.heap.size (fun k_=>some k_≠(v1_:Value).ownBlock) v0_ r1∧Kd.R (Kd.int .i64) 3 w' w.heap.size (fun k_=>some k_≠(v0_:Value).ownBlock) v1_ r2∧Below w.heap.size w w':=by
 have hu26:=Try.underlying26;have hu67:=Try.underlying67;have HR0:=Aside0.mk hr0;have HC0:=Aside0.mk hc0;clear hr0 hc0;have HB:=Aside0.mk (Below.refl w.heap.size w);have H:((spec_l1Cur_array.f k l0 0 0 6).bind fun bt597=>((spec_l1Cur_among.f l0 bt597.2.2.2.1 bt597.2.2.2.2 (([0,1,(-1),4,(-6),30,1000,(-1000),1001] :List Int))).bind fun bt610=>(some (bt597.1,bt597.2.1,bt597.2.2.1,bt610.1))))=some (r1,r2,r3,r4):=h;clear h;replace H:=Option.bind_eq_some_iff.mp H;obtain ⟨⟨t597,t600,t603,t604,t605⟩,A20,H⟩:=H;replace H:((spec_l1Cur_among.f l0 t604 t605 (([0,1,(-1),4,(-6),30,1000,(-1000),1001] :List Int))).bind fun bt610=>(some (t597,t600,t603,bt610.1)))=some (r1,r2,r3,r4):=H;have A2:=Aside0.mk A20;clear A20;obtain ⟨y607,hy607⟩: ∃ y_:List Int,y_=(([0,1,(-1),4,(-6),30,1000,(-1000),1001] :List Int)):=⟨_,rfl⟩
 replace H:((spec_l1Cur_among.f l0 t604 t605 y607).bind fun bt610=>(some (t597,t600,t603,bt610.1)))=some (r1,r2,r3,r4):=by first|(rw [hy607];with_reducible exact H)|(have H2_:=(Option.bind_some _ _).symm.trans H;rw [hy607];with_reducible exact H2_)|(have H2_:=(Option.bind_some _ _).symm.trans H;with_reducible exact H2_)|with_reducible exact H|(rw [hy607];exact H)|exact H
 have Ny607:=Aside0.mk hy607;clear hy607;replace H:=Option.bind_eq_some_iff.mp H;obtain ⟨⟨t610,t611,t612⟩,A30,H⟩:=H;replace H:(some (t597,t600,t603,t610))=some (r1,r2,r3,r4):=H;have A3:=Aside0.mk A30;clear A30;simp only [Option.some.injEq,Prod.mk.injEq] at H;obtain ⟨rfl,rfl,rfl,rfl⟩:=H;go_enter Try.func34,Try.ntmps34
 try go_wp2_with (first|((with_reducible refine gate_dst (N:=2) rfl ?_);refine box_event ?hg (N:=2) ?hd (cs:= #[.slice none 0 0]) (t:=26) ?hr ?_;(case hd=>rfl);(case hg=>rfl);(case hr=>first|(go_simp;done)|(go_simp;rfl));intro gb595 hg w4 hbox hb;have BK595:=Aside0.mk (hbox);have GW595:=Aside0.mk ((by rw [hg];exact (below_size (by repeat (first|(with_reducible first|exact HB.out|apply below_alloc|apply pw_below_drewN|apply below_drew1)|exact HB.out))):w.heap.size≤gb595));have GE595:=GW595;replace HB:=Aside0.mk (below_step (by repeat (first|(with_reducible first|exact HB.out|apply below_alloc|apply pw_below_drewN|apply below_drew1)|exact HB.out)) hb);clear hb hbox hg)|((with_reducible refine gate_dst (N:=12) rfl ?_);refine box_event ?hg (N:=12) ?hd (cs:= #[.slice A0 l0.length c0, .int .i64 0, .int .u64 0]) (t:=67) ?hr ?_;(case hd=>rfl);(case hg=>rfl);(case hr=>first|(go_simp;done)|(go_simp;rfl));intro gb596 hg w5 hbox hb;have HI596:=Aside0.mk ((⟨_,_,hbox,(by rw [hg];exact (below_size (by repeat (first|(with_reducible first|exact HB.out|apply below_alloc|apply pw_below_drewN|apply below_drew1|refine below_set ?_ GE595.out)|exact HB.out))):w.heap.size≤gb596),HR0.out⟩:IsS67 w _ gb596 l0 0 0));have GW596:=Aside0.mk ((by rw [hg];exact (below_size (by repeat (first|(with_reducible first|exact HB.out|apply below_alloc|apply pw_below_drewN|apply below_drew1|refine below_set ?_ GE595.out)|exact HB.out))):w.heap.size≤gb596));have GE596:=GW596;replace HB:=Aside0.mk (below_step (by repeat (first|(with_reducible first|exact HB.out|apply below_alloc|apply pw_below_drewN|apply below_drew1|refine below_set ?_ GE595.out)|exact HB.out)) hb);have NB595_596:=Aside0.mk ((by rw [hg];exact Nat.ne_of_lt (blk_lt (g:=gb595) (o:= .cells #[.slice none 0 0] 26 (0,0)) (by (with_reducible repeat (first|refine blk_drewN ?_ _|refine blk_drew ?_|refine blk_alloc ?_ _));exact BK595.out)):gb595≠gb596));have NB596_595:=Aside0.mk ((by rw [hg];exact Nat.ne_of_gt (blk_lt (g:=gb595) (o:= .cells #[.slice none 0 0] 26 (0,0)) (by (with_reducible repeat (first|refine blk_drewN ?_ _|refine blk_drew ?_|refine blk_alloc ?_ _));exact BK595.out)):gb596≠gb595));replace BK595:=Aside0.mk (blk_below (g:=gb595) (o:= .cells #[.slice none 0 0] 26 (0,0)) (by (with_reducible repeat (first|refine blk_drewN ?_ _|refine blk_drew ?_|refine blk_alloc ?_ _));exact BK595.out) hb);clear hb hbox hg)|((with_reducible refine gate_callee (f:=61) rfl ?_);refine goesL_ (some 15) rfl rfl Try.func61 (by kernel_rfl) rfl #[.pointer (some ⟨gb596,0,none⟩), .int .i64 6] rfl (by (try simp only [List.map_toArray,List.map_cons,List.map_nil]);first|done|rfl|(simp only [List.length_drop,List.length_take];rfl)) ?_;(with_reducible refine (spec_l1Cur_array.calls k gb596 l0 0 0 6 t597 t600 t603 t604 t605 w _ ?side1 ?side2 A2.out).mono ?_);(case side1=>repeat (first|(with_reducible first|exact HI596.out|apply IsS67.alloc|apply IsS67.drewN|apply IsS67.drew|apply IsS67.set_1|apply IsS67.set_2|refine IsS67.far ?_ NB596_595.out _)|exact HI596.out));(case side2=>repeat (first|(with_reducible first|exact HB.out|apply below_alloc|apply pw_below_drewN|apply below_drew1|refine below_set ?_ (IsS67.ge HI596.out)|refine below_set ?_ GE595.out)|exact HB.out));rintro e w6 ⟨v598,v601,rfl,ho0,ho1,hi,hb,hk⟩;refine ⟨_,rfl,?_⟩;replace BK595:=Aside0.mk (KeepBut.blk hk (g':=gb595) (o:= .cells #[.slice none 0 0] 26 (0,0)) (by (with_reducible repeat (first|refine blk_drewN ?_ _|refine blk_drew ?_|refine blk_alloc ?_ _));exact BK595.out) NB595_596.out (by simp));have HO599:=Aside0.mk (Kd.R_lower ho0 (below_size (by repeat (first|(with_reducible first|exact HB.out|apply below_alloc|apply pw_below_drewN|apply below_drew1|refine below_set ?_ (IsS67.ge HI596.out)|refine below_set ?_ GE595.out)|exact HB.out))));have HO602:=Aside0.mk (Kd.R_lower ho1 (below_size (by repeat (first|(with_reducible first|exact HB.out|apply below_alloc|apply pw_below_drewN|apply below_drew1|refine below_set ?_ (IsS67.ge HI596.out)|refine below_set ?_ GE595.out)|exact HB.out))));replace HB:=Aside0.mk (hb);replace HI596:=Aside0.mk (hi);(try clear hb);(try clear hb2);(try clear hk);(try clear hi);(try clear ho0);(try clear ho1))|((with_reducible refine gate_dst (N:=7) rfl ?_);refine box_event ?hg (N:=7) ?hd (cs:= #[.slice none 0 0]) (t:=26) ?hr ?_;(case hd=>rfl);(case hg=>rfl);(case hr=>first|(go_simp;done)|(go_simp;rfl));intro gb606 hg w7 hbox hb;replace HO599:=Aside0.mk (Kd.R_below (by (with_reducible repeat (first|apply Kd.R_alloc|apply Kd.R_drewN|apply Kd.R_drew));exact HO599.out) hb);replace HO602:=Aside0.mk (Kd.R_below (by (with_reducible repeat (first|apply Kd.R_alloc|apply Kd.R_drewN|apply Kd.R_drew));exact HO602.out) hb);have BK606:=Aside0.mk (hbox);have GW606:=Aside0.mk ((by rw [hg];exact (below_size (by repeat (first|(with_reducible first|exact HB.out|apply below_alloc|apply pw_below_drewN|apply below_drew1|refine below_set ?_ (IsS67.ge HI596.out)|refine below_set ?_ GE595.out)|exact HB.out))):w.heap.size≤gb606));have GE606:=GW606;replace HB:=Aside0.mk (below_step (by repeat (first|(with_reducible first|exact HB.out|apply below_alloc|apply pw_below_drewN|apply below_drew1|refine below_set ?_ (IsS67.ge HI596.out)|refine below_set ?_ GE595.out)|exact HB.out)) hb);have NB595_606:=Aside0.mk ((by rw [hg];exact Nat.ne_of_lt (blk_lt (g:=gb595) (o:= .cells #[.slice none 0 0] 26 (0,0)) (by (with_reducible repeat (first|refine blk_drewN ?_ _|refine blk_drew ?_|refine blk_alloc ?_ _));exact BK595.out)):gb595≠gb606));have NB606_595:=Aside0.mk ((by rw [hg];exact Nat.ne_of_gt (blk_lt (g:=gb595) (o:= .cells #[.slice none 0 0] 26 (0,0)) (by (with_reducible repeat (first|refine blk_drewN ?_ _|refine blk_drew ?_|refine blk_alloc ?_ _));exact BK595.out)):gb606≠gb595));replace BK595:=Aside0.mk (blk_below (g:=gb595) (o:= .cells #[.slice none 0 0] 26 (0,0)) (by (with_reducible repeat (first|refine blk_drewN ?_ _|refine blk_drew ?_|refine blk_alloc ?_ _));exact BK595.out) hb);have NB596_606:=Aside0.mk ((by rw [hg];exact Nat.ne_of_lt (IsS67.lt (show IsS67 w _ gb596 l0 t604 t605 from by repeat (first|(with_reducible first|exact HI596.out|apply IsS67.alloc|apply IsS67.drewN|apply IsS67.drew|apply IsS67.set_1|apply IsS67.set_2|refine IsS67.far ?_ NB596_595.out _)|exact HI596.out))):gb596≠gb606));have NB606_596:=Aside0.mk ((by rw [hg];exact Nat.ne_of_gt (IsS67.lt (show IsS67 w _ gb596 l0 t604 t605 from by repeat (first|(with_reducible first|exact HI596.out|apply IsS67.alloc|apply IsS67.drewN|apply IsS67.drew|apply IsS67.set_1|apply IsS67.set_2|refine IsS67.far ?_ NB596_595.out _)|exact HI596.out))):gb606≠gb596));replace HI596:=Aside0.mk (IsS67.below (by repeat (first|(with_reducible first|exact HI596.out|apply IsS67.alloc|apply IsS67.drewN|apply IsS67.drew|apply IsS67.set_1|apply IsS67.set_2|refine IsS67.far ?_ NB596_595.out _)|exact HI596.out)) hb);clear hb hbox hg;obtain ⟨Ao8,co8,eo8⟩:=Kd.R_slice HO599.out;subst eo8;have hnb9:=NB606_595.out;have hnc9:=NB595_606.out;have hnb10:=NB606_596.out;have hnc10:=NB596_606.out;have hcz11_0:w7.cell? ⟨gb606,0,none⟩=some (.slice none 0 0):=(blk_cell BK606.out 0).trans rfl;have hfz11_0:=blk_frozen BK606.out 0))
 have n0_:Aside0 (Kd.R (Kd.int .i64) 3 (w7.setCell ⟨gb606,0,none⟩ (.slice Ao8 t597.length co8)) w.heap.size (fun k_=>some k_≠(v601:Value).ownBlock) (.slice Ao8 t597.length co8) t597):=⟨by (with_reducible repeat (first|apply Kd.R_alloc|apply Kd.R_drewN|apply Kd.R_drew));exact Kd.R_mono (Kd.R_far (p:=⟨gb606,0,none⟩) (Kd.R_types HO599.out BK606.out (by decide)) (fun _ hk=>hk.2) (.slice Ao8 t597.length co8)) (fun _ hk=>hk.1)⟩
 have n1_:Aside0 (Kd.R (Kd.int .i64) 3 (w7.setCell ⟨gb606,0,none⟩ (.slice Ao8 t597.length co8)) w.heap.size (fun k_=>some k_≠(.slice Ao8 t597.length co8:Value).ownBlock) v601 t600):=⟨by (with_reducible repeat (first|apply Kd.R_alloc|apply Kd.R_drewN|apply Kd.R_drew));exact Kd.R_mono (Kd.R_far (p:=⟨gb606,0,none⟩) (Kd.R_types HO602.out BK606.out (by decide)) (fun _ hk=>hk.2) (.slice Ao8 t597.length co8)) (fun _ hk=>hk.1)⟩
 have n2_:Aside0 ((w7.setCell ⟨gb606,0,none⟩ (.slice Ao8 t597.length co8)).heap[gb595]? =some (.cells #[.slice none 0 0] 26 (0,0))):=⟨by (with_reducible repeat (first|refine blk_drewN ?_ _|refine blk_drew ?_|refine blk_alloc ?_ _));refine blk_far ?_ NB595_606.out _;(with_reducible repeat (first|refine blk_drewN ?_ _|refine blk_drew ?_|refine blk_alloc ?_ _));exact BK595.out⟩
 have n3_:Aside0 ((w7.setCell ⟨gb606,0,none⟩ (.slice Ao8 t597.length co8)).heap[gb606]? =some (.cells #[.slice Ao8 t597.length co8] 26 (0,0))):=⟨by (with_reducible repeat (first|refine blk_drewN ?_ _|refine blk_drew ?_|refine blk_alloc ?_ _));refine blk_put (cs:= #[.slice none 0 0]) ?_ 0 _ rfl;(with_reducible repeat (first|refine blk_drewN ?_ _|refine blk_drew ?_|refine blk_alloc ?_ _));exact BK606.out⟩
 have n4_:Aside0 (IsS67 w (w7.setCell ⟨gb606,0,none⟩ (.slice Ao8 t597.length co8)) gb596 l0 t604 t605):=⟨by repeat (first|(with_reducible first|exact HI596.out|apply IsS67.alloc|apply IsS67.drewN|apply IsS67.drew|apply IsS67.set_1|apply IsS67.set_2|refine IsS67.far ?_ NB596_595.out _|refine IsS67.far ?_ NB596_606.out _)|exact HI596.out)⟩
 have n5_:Aside0 (Below w.heap.size w (w7.setCell ⟨gb606,0,none⟩ (.slice Ao8 t597.length co8))):=⟨by repeat (first|(with_reducible first|exact HB.out|apply below_alloc|apply pw_below_drewN|apply below_drew1|refine below_set ?_ (IsS67.ge HI596.out)|refine below_set ?_ GE595.out|refine below_set ?_ GE606.out)|exact HB.out)⟩
 (try clear HO599)
 (try clear HO602)
 (try clear BK595)
 (try clear BK606)
 (try clear HI596)
 (try clear HB)
 generalize (w7.setCell ⟨gb606,0,none⟩ (.slice Ao8 t597.length co8))=w12 at n0_ n1_ n2_ n3_ n4_ n5_ ⊢;have HO599:=n0_;have HO602:=n1_;have BK595:=n2_;have BK606:=n3_;have HI596:=n4_;have HB:=n5_;clear n0_ n1_ n2_ n3_ n4_ n5_;replace HO599:=Aside0.mk (Kd.R_drew HO599.out);replace HO602:=Aside0.mk (Kd.R_drew HO602.out);replace BK595:=Aside0.mk (blk_drew BK595.out);replace BK606:=Aside0.mk (blk_drew BK606.out);replace HI596:=Aside0.mk (IsS67.drew HI596.out);replace HB:=Aside0.mk (below_drew1 HB.out);refine start_ (n:=10) (S:=fun w'=>w'.cell? ⟨gb606,0,none⟩=some (.slice Ao8 t597.length co8)) (ds:= []) #[false,false,false,false,false,false,false,false,false,false] (by kernel_rfl) rfl rfl ((blk_cell BK606.out 0).trans rfl) (fun hHeld=> ?_);refine with_tabW spec_DrawRowArrayTimes.tab3 spec_DrawRowArrayTimes.bits3 (fun HT_ HW_=> ?_);generalize w12.drew=w13 at HO599 HO602 BK595 BK606 HI596 HB hHeld ⊢;refine pure_ (i:=1) (N:=some 20) (v:= ?_) (a':= ?_) #[false,true,false,false,false,false,false,false,false,false] rfl rfl (any_of HT_.out (by kernel_rfl)) (fun _ _ _ h=>h) (Or.inl ⟨by rfl,?_⟩) ?_ ?_;rotate_left
 ·
  intro w';go_simp
  with_reducible rfl
 rotate_left
 ·
  simp only [Act.put,List.setIfInBounds_toArray,List.set_cons_zero,List.set_cons_succ,i64_w,i32_w];rfl
 refine pure_ (i:=2) (N:=some 21) (v:= ?_) (a':= ?_) #[false,true,true,false,false,false,false,false,false,false] rfl rfl (any_of HT_.out (by kernel_rfl)) (fun _ _ _ h=>h) (Or.inl ⟨by rfl,?_⟩) ?_ ?_;rotate_left
 ·
  intro w';go_simp
  with_reducible rfl
 rotate_left
 ·
  simp only [Act.put,List.setIfInBounds_toArray,List.set_cons_zero,List.set_cons_succ,i64_w,i32_w];rfl
 refine pure_ (i:=3) (N:=some 22) (v:= ?_) (a':= ?_) #[false,true,true,true,false,false,false,false,false,false] rfl rfl (any_of HT_.out (by kernel_rfl)) (fun _ _ _ h=>h) (Or.inl ⟨by rfl,?_⟩) ?_ ?_;rotate_left
 ·
  intro w';go_simp
  with_reducible rfl
 rotate_left
 ·
  simp only [Act.put,List.setIfInBounds_toArray,List.set_cons_zero,List.set_cons_succ,i64_w,i32_w];rfl
 refine take_ (i:=0) (N:=some 19) (v:= ?_) (a':= ?_) #[true,true,true,true,false,false,false,false,false,false] rfl rfl (take_ofW HT_.out HW_.out (by kernel_rfl)) (fun _ _ _ h=>h) (Or.inl ⟨by rfl,?_⟩) hHeld ?_ ?_;rotate_left
 ·
  intro w' s0;go_simp
  with_reducible rfl
 rotate_left
 ·
  simp only [Act.put,List.setIfInBounds_toArray,List.set_cons_zero,List.set_cons_succ,i64_w,i32_w];rfl
 refine one_ (i:=4) (N:=some 23) #[true,true,true,true,true,false,false,false,false,false] rfl rfl (one_of HT_.out (by kernel_rfl)) (by decide) (fun K hK=> ?_);refine Kd.R_lit_step (Kd.int .i64) _ 3 ?hg (N:=23) ?hd (xs:=([0,1,(-1),4,(-6),30,1000,(-1000),1001] :List Int)) (inner:= [.int .i64 0, .int .i64 1, .int .i64 (-1), .int .i64 4, .int .i64 (-6), .int .i64 30, .int .i64 1000, .int .i64 (-1000), .int .i64 1001]) (ok:=fun _=>True) (okp:=fun _=>True) ?hr ?hp (fun _ hk=>hk) trivial (Below.refl _ _) (Nat.le_refl _) (by simp) ?_;(case hd=>rfl);(case hg=>rfl);(case hr=>first|(go_simp;done)|(go_simp;rfl));(case hp=>exact (Reps.one (show Kd.M (Kd.int .i64) _ _ _ 0 [.int .i64 0] from rfl) (Reps.one (show Kd.M (Kd.int .i64) _ _ _ 1 [.int .i64 1] from rfl) (Reps.one (show Kd.M (Kd.int .i64) _ _ _ (-1) [.int .i64 (-1)] from rfl) (Reps.one (show Kd.M (Kd.int .i64) _ _ _ 4 [.int .i64 4] from rfl) (Reps.one (show Kd.M (Kd.int .i64) _ _ _ (-6) [.int .i64 (-6)] from rfl) (Reps.one (show Kd.M (Kd.int .i64) _ _ _ 30 [.int .i64 30] from rfl) (Reps.one (show Kd.M (Kd.int .i64) _ _ _ 1000 [.int .i64 1000] from rfl) (Reps.one (show Kd.M (Kd.int .i64) _ _ _ (-1000) [.int .i64 (-1000)] from rfl) (Reps.one (show Kd.M (Kd.int .i64) _ _ _ 1001 [.int .i64 1001] from rfl) (Reps.none _ _)))))))))))
 intro v608 w14 ho15 hb hg_ hnew_;clear hg_ hnew_
 (first|rw [←Ny607.out] at ho15|(simp only [Int.reduceToNat] at ho15;rw [←Ny607.out] at ho15))
 have HO609:=Aside0.mk (Kd.R_lower (Kd.R_new' (Kd.R_new' ho15 (Kd.R_lt (by (with_reducible repeat (first|apply Kd.R_alloc|apply Kd.R_drewN|apply Kd.R_drew));exact HO599.out))) (Kd.R_lt (by (with_reducible repeat (first|apply Kd.R_alloc|apply Kd.R_drewN|apply Kd.R_drew));exact HO602.out))) (below_size (by repeat (first|(with_reducible first|exact HB.out|apply below_alloc|apply pw_below_drewN|apply below_drew1|refine below_set ?_ (IsS67.ge HI596.out)|refine below_set ?_ GE595.out|refine below_set ?_ GE606.out)|exact HB.out))));replace HO599:=Aside0.mk (Kd.R_elder' (by (with_reducible repeat (first|apply Kd.R_alloc|apply Kd.R_drewN|apply Kd.R_drew));exact HO599.out) (Kd.R_base ho15) hb);replace HO602:=Aside0.mk (Kd.R_elder' (by (with_reducible repeat (first|apply Kd.R_alloc|apply Kd.R_drewN|apply Kd.R_drew));exact HO602.out) (Kd.R_base ho15) hb);replace BK595:=Aside0.mk (blk_below (g:=gb595) (o:= .cells #[.slice none 0 0] 26 (0,0)) (by (with_reducible repeat (first|refine blk_drewN ?_ _|refine blk_drew ?_|refine blk_alloc ?_ _));exact BK595.out) hb);replace BK606:=Aside0.mk (blk_below (g:=gb606) (o:= .cells #[.slice Ao8 t597.length co8] 26 (0,0)) (by (with_reducible repeat (first|refine blk_drewN ?_ _|refine blk_drew ?_|refine blk_alloc ?_ _));exact BK606.out) hb);replace HB:=Aside0.mk (below_step (by repeat (first|(with_reducible first|exact HB.out|apply below_alloc|apply pw_below_drewN|apply below_drew1|refine below_set ?_ (IsS67.ge HI596.out)|refine below_set ?_ GE595.out|refine below_set ?_ GE606.out)|exact HB.out)) hb);replace HI596:=Aside0.mk (IsS67.below (by repeat (first|(with_reducible first|exact HI596.out|apply IsS67.alloc|apply IsS67.drewN|apply IsS67.drew|apply IsS67.set_1|apply IsS67.set_2|refine IsS67.far ?_ NB596_595.out _|refine IsS67.far ?_ NB596_606.out _)|exact HI596.out)) hb);clear hb ho15;obtain ⟨Ao16,co16,eo16⟩:=Kd.R_slice HO609.out
 (first|subst eo16|(injection eo16 with f1_ f2_ f3_;have f4_:=f1_.symm;have f5_:=f3_.symm;clear f1_ f2_ f3_;subst f4_;subst f5_))
 refine hK.out _ _ ((blk_cell BK606.out 0).trans rfl) (fun hHeld=> ?_);clear hK K;refine norm_ (a':= ?_) ?_ ?_;rotate_left
 ·
  show Act.put _ (some 23) _=_
  simp only [Act.put,List.setIfInBounds_toArray,List.set_cons_zero,List.set_cons_succ,i64_w,i32_w];rfl
 refine one_ (i:=5) (N:=some 24) #[true,true,true,true,true,true,false,false,false,false] rfl rfl (one_of HT_.out (by kernel_rfl)) (by decide) (fun K hK=> ?_);refine goes_ Try.func94 (by kernel_rfl) rfl #[.pointer (some ⟨gb596,0,none⟩), .slice Ao16 y607.length co16] (by rfl) rfl rfl (by (try simp only [List.map_toArray,List.map_cons,List.map_nil]);first|done|rfl|(simp only [List.length_drop,List.length_take];rfl)) ?_
 with_reducible refine (spec_l1Cur_among.calls gb596 l0 t604 t605 _ _ y607 t610 t611 t612 w _ ?side1 ?side2 ?side3 ?side4 ?side5 A3.out).mono ?_
 (case side1=>repeat (first|(with_reducible first|exact HI596.out|apply IsS67.alloc|apply IsS67.drewN|apply IsS67.drew|apply IsS67.set_1|apply IsS67.set_2|refine IsS67.far ?_ NB596_595.out _|refine IsS67.far ?_ NB596_606.out _)|exact HI596.out))
 (case side2=>repeat (first|(with_reducible first|exact HB.out|apply below_alloc|apply pw_below_drewN|apply below_drew1|refine below_set ?_ (IsS67.ge HI596.out)|refine below_set ?_ GE595.out|refine below_set ?_ GE606.out)|exact HB.out))
 (case side3=>repeat (first|exact (Kd.R_reads' HO609.out).2.2|(with_reducible refine Kd.C_alloc ?_ _)|(with_reducible refine Kd.C_drewN ?_ _)|(with_reducible refine Kd.C_drew ?_)))
 (case side4=>exact (Kd.R_reads' HO609.out).2.1)
 (case side5=>exact far_slice (IsS67.own_ne HI596.out HO609.out (by decide)))
 rintro e w17 ⟨rfl,hi,hb,hk⟩;refine ⟨_,rfl,?_⟩;replace BK595:=Aside0.mk (KeepBut.blk hk (g':=gb595) (o:= .cells #[.slice none 0 0] 26 (0,0)) (by (with_reducible repeat (first|refine blk_drewN ?_ _|refine blk_drew ?_|refine blk_alloc ?_ _));exact BK595.out) NB595_596.out (by simp));replace HO599:=Aside0.mk (Kd.R_mono (Kd.R_keep (IsS67.apart (show IsS67 w _ gb596 l0 t604 t605 from by repeat (first|(with_reducible first|exact HI596.out|apply IsS67.alloc|apply IsS67.drewN|apply IsS67.drew|apply IsS67.set_1|apply IsS67.set_2|refine IsS67.far ?_ NB596_595.out _|refine IsS67.far ?_ NB596_606.out _)|exact HI596.out)) (by (with_reducible repeat (first|apply Kd.R_alloc|apply Kd.R_drewN|apply Kd.R_drew));exact HO599.out) (by decide)) hk (fun _ h=>h.2)) (fun _ h=>h.1));replace HO602:=Aside0.mk (Kd.R_mono (Kd.R_keep (IsS67.apart (show IsS67 w _ gb596 l0 t604 t605 from by repeat (first|(with_reducible first|exact HI596.out|apply IsS67.alloc|apply IsS67.drewN|apply IsS67.drew|apply IsS67.set_1|apply IsS67.set_2|refine IsS67.far ?_ NB596_595.out _|refine IsS67.far ?_ NB596_606.out _)|exact HI596.out)) (by (with_reducible repeat (first|apply Kd.R_alloc|apply Kd.R_drewN|apply Kd.R_drew));exact HO602.out) (by decide)) hk (fun _ h=>h.2)) (fun _ h=>h.1));replace BK606:=Aside0.mk (KeepBut.blk hk (g':=gb606) (o:= .cells #[.slice Ao8 t597.length co8] 26 (0,0)) (by (with_reducible repeat (first|refine blk_drewN ?_ _|refine blk_drew ?_|refine blk_alloc ?_ _));exact BK606.out) NB606_596.out (by simp));replace HO609:=Aside0.mk (Kd.R_mono (Kd.R_keep (IsS67.apart (show IsS67 w _ gb596 l0 t604 t605 from by repeat (first|(with_reducible first|exact HI596.out|apply IsS67.alloc|apply IsS67.drewN|apply IsS67.drew|apply IsS67.set_1|apply IsS67.set_2|refine IsS67.far ?_ NB596_595.out _|refine IsS67.far ?_ NB596_606.out _)|exact HI596.out)) (by (with_reducible repeat (first|apply Kd.R_alloc|apply Kd.R_drewN|apply Kd.R_drew));exact HO609.out) (by decide)) hk (fun _ h=>h.2)) (fun _ h=>h.1));replace HB:=Aside0.mk (hb);replace HI596:=Aside0.mk (hi)
 (try clear hb)
 (try clear hb2)
 (try clear hk)
 (try clear hi)
 refine hK.out _ _ ((blk_cell BK606.out 0).trans rfl) (fun hHeld=> ?_);clear hK K;refine norm_ (a':= ?_) ?_ ?_;rotate_left
 ·
  show Act.put _ (some 24) _=_
  simp only [Act.put,List.setIfInBounds_toArray,List.set_cons_zero,List.set_cons_succ,i64_w,i32_w];rfl
 refine one_ (i:=6) (N:=none) #[true,true,true,true,true,true,true,false,false,false] rfl rfl (one_of HT_.out (by kernel_rfl)) (by decide) (fun K hK=> ?_);have hs18:w17.cell? ⟨gb595,0,none⟩=some (.slice none 0 0):=(blk_cell BK595.out 0).trans rfl;have hfs18:=blk_frozen BK595.out 0;have hns18_1:=NB606_595.out;have hms18_1:=NB595_606.out;refine skip_ (w1:= ?_) (by rfl) rfl ?_ ?_;rotate_left
 ·
  go_simp;rfl
 refine hK.out _ _ (((cell_far (p:=⟨gb595,_,none⟩) NB606_595.out _).trans (hHeld))) (fun hHeld=> ?_);clear hK K;refine pure_ (i:=7) (N:=some 3) (v:= ?_) (a':= ?_) #[true,true,true,true,true,true,true,true,false,false] rfl rfl (any_of HT_.out (by kernel_rfl)) (fun _ _ _ h=>h) (Or.inl ⟨by rfl,?_⟩) ?_ ?_;rotate_left
 ·
  intro w';go_simp
  with_reducible rfl
 rotate_left
 ·
  simp only [Act.put,List.setIfInBounds_toArray,List.set_cons_zero,List.set_cons_succ,i64_w,i32_w];rfl
 refine pure_ (i:=8) (N:=some 4) (v:= ?_) (a':= ?_) #[true,true,true,true,true,true,true,true,true,false] rfl rfl (any_of HT_.out (by kernel_rfl)) (fun _ _ _ h=>h) (Or.inl ⟨by rfl,?_⟩) ?_ ?_;rotate_left
 ·
  intro w';go_simp
  with_reducible rfl
 rotate_left
 ·
  simp only [Act.put,List.setIfInBounds_toArray,List.set_cons_zero,List.set_cons_succ,i64_w,i32_w];rfl
 refine pure_ (i:=9) (N:=some 5) (v:= ?_) (a':= ?_) #[true,true,true,true,true,true,true,true,true,true] rfl rfl (any_of HT_.out (by kernel_rfl)) (fun _ _ _ h=>h) (Or.inl ⟨by rfl,?_⟩) ?_ ?_;rotate_left
 ·
  intro w';go_simp
  with_reducible rfl
 rotate_left
 ·
  simp only [Act.put,List.setIfInBounds_toArray,List.set_cons_zero,List.set_cons_succ,i64_w,i32_w];rfl
 refine done_ (done_of HT_.out (by kernel_rfl)) ?_
 try go_wp2
 refine bodyPost_ret (results_list (rs:= [.cell 2 26, .tmp 3, .tmp 4, .tmp 5]) rfl (by simp) (.cell gb595 26 #[.slice Ao8 t597.length co8] (0,0) _ rfl (by (with_reducible repeat (first|refine blk_drewN ?_ _|refine blk_drew ?_|refine blk_alloc ?_ _));refine blk_put (cs:= #[.slice none 0 0]) ?_ 0 _ rfl;(with_reducible repeat (first|refine blk_drewN ?_ _|refine blk_drew ?_|refine blk_alloc ?_ _));exact BK595.out) Try.underlying26 rfl (by kernel_rfl) (.tmp (.tmp (.tmp .nil))))) rfl ?_;exact ⟨_,_,by first|rfl|(simp [errW_none,errW_some] <;>rfl)|(simp [*,errW_none,errW_some] <;>rfl),by (with_reducible repeat (first|apply Kd.R_alloc|apply Kd.R_drewN|apply Kd.R_drew));exact Kd.R_mono (Kd.R_far (p:=⟨gb595,0,none⟩) (Kd.R_types HO599.out BK595.out (by decide)) (fun _ hk=>hk.2) (.slice Ao8 t597.length co8)) (fun _ hk=>hk.1.1),by (with_reducible repeat (first|apply Kd.R_alloc|apply Kd.R_drewN|apply Kd.R_drew));exact Kd.R_mono (Kd.R_far (p:=⟨gb595,0,none⟩) (Kd.R_types HO602.out BK595.out (by decide)) (fun _ hk=>hk.2) (.slice Ao8 t597.length co8)) (fun _ hk=>hk.1.1),by repeat (first|(with_reducible first|exact HB.out|apply below_alloc|apply pw_below_drewN|apply below_drew1|refine below_set ?_ (IsS67.ge HI596.out)|refine below_set ?_ GE595.out|refine below_set ?_ GE606.out)|exact HB.out)⟩
end Go.Proofs.Ytkgngggppcmpfaa.L
end
section
namespace Go.Proofs.Ytkgngggppcmpfaa.L
open Go.RowKit Go.Proofs.YtkgngggppcmpfaaW.PrintWords Go.Proofs.YtkgngggppcmpfaaW.PrintLast Go.Proofs.YtkgngggppcmpfaaW.PrintMore Go.Proofs.Ytkgngggppcmpfaa.X
attribute [local go_sem] max2_int min2_int max_two min_two max_three min_three max_four min_four
set_option linter.unusedVariables false
set_option linter.unusedSimpArgs false
mutual
def spec_RowArrayTimes.j0 : Nat → List Int → Int → Int → Bool → List Int → Option (List Int × Bool)
 |0,_,_,_,_,_=>none
 |k+1,x1,x2,x3,x20,x614000=>if x20=true then (some (([] :List Int),false)) else ((spec_l1Own.f x1).bind fun t616=>(spec_RowArrayTimes.l0 k x2 x3 t616 x614000))
def spec_RowArrayTimes.l0 : Nat → Int → Int → List Int → List Int → Option (List Int × Bool)
 |0,_,_,_,_=>none
 |k+1,x2,x3,x10,x614000=>if x3>0 then ((spec_pcRow.f k x614000 x10 x2).bind fun t619=>(spec_RowArrayTimes.l0 k x2 (wrap64 (x3 - 1)) t619 x614000)) else (spec_RowArrayTimes.l1 k x2 x3 x10 x614000)
def spec_RowArrayTimes.l1 : Nat → Int → Int → List Int → List Int → Option (List Int × Bool)
 |0,_,_,_,_=>none
 |k+1,x2,x3,x10,x614000=>if x3<0 then ((spec_pcBack.f k x614000 x10 x2).bind fun t622=>(spec_RowArrayTimes.l1 k x2 (wrap64 (x3+1)) t622 x614000)) else (some (x10,true))
end
def spec_RowArrayTimes.f (k : Nat) (l0_0 : List Int) (l1 : List Int) (a2 : Int) (a3 : Int) : Option (List Int × Bool) := (spec_pcIs.f k l0_0 l1 a2).bind fun t614 => (if t614 = true then ((spec_l1In.f a3 (-1000) 1000).bind fun t615 => (spec_RowArrayTimes.j0 k l1 a2 a3 (!t615) l0_0)) else (spec_RowArrayTimes.j0 k l1 a2 a3 true l0_0))
theorem spec_RowArrayTimes.mono_l : ∀ k, (∀ y0 y1 y2 y3 y4, LeO (spec_RowArrayTimes.j0 k y0 y1 y2 y3 y4) (spec_RowArrayTimes.j0 (k + 1) y0 y1 y2 y3 y4)) ∧ (∀ y0 y1 y2 y3, LeO (spec_RowArrayTimes.l0 k y0 y1 y2 y3) (spec_RowArrayTimes.l0 (k + 1) y0 y1 y2 y3)) ∧ (∀ y0 y1 y2 y3, LeO (spec_RowArrayTimes.l1 k y0 y1 y2 y3) (spec_RowArrayTimes.l1 (k + 1) y0 y1 y2 y3))
 |0=>⟨fun _ _ _ _ _ r h=>by simp [spec_RowArrayTimes.j0] at h,fun _ _ _ _ r h=>by simp [spec_RowArrayTimes.l0] at h,fun _ _ _ _ r h=>by simp [spec_RowArrayTimes.l1] at h⟩
 |k+1=>by
  obtain ⟨ih0,ih1,ih2⟩:=spec_RowArrayTimes.mono_l k;refine ⟨?_,?_,?_⟩
  ·
   intro y0 y1 y2 y3 y4;unfold spec_RowArrayTimes.j0
   repeat' first
   |(with_reducible exact ih0 _ _ _ _ _)
   |(with_reducible exact ih1 _ _ _ _)
   |(with_reducible exact ih2 _ _ _ _)
   |(with_reducible exact spec_pcBack.mono _ _ _ _)
   |(with_reducible exact spec_pcIs.mono _ _ _ _)
   |(with_reducible exact spec_pcRow.mono _ _ _ _)
   |(with_reducible exact LeO.refl _)
   |(with_reducible exact LeO.none _)
   |(with_reducible refine LeO.ite ?_ ?_)
   |(with_reducible refine LeO.bind ?_ (fun _=> ?_))
   |exact ih0 _ _ _ _ _
   |exact ih1 _ _ _ _
   |exact ih2 _ _ _ _
   |exact spec_pcBack.mono _ _ _ _
   |exact spec_pcIs.mono _ _ _ _
   |exact spec_pcRow.mono _ _ _ _
   |exact LeO.none _
   |refine LeO.ite ?_ ?_
   |refine LeO.bind ?_ (fun _=> ?_)
  ·
   intro y0 y1 y2 y3;unfold spec_RowArrayTimes.l0
   repeat' first
   |(with_reducible exact ih0 _ _ _ _ _)
   |(with_reducible exact ih1 _ _ _ _)
   |(with_reducible exact ih2 _ _ _ _)
   |(with_reducible exact spec_pcBack.mono _ _ _ _)
   |(with_reducible exact spec_pcIs.mono _ _ _ _)
   |(with_reducible exact spec_pcRow.mono _ _ _ _)
   |(with_reducible exact LeO.refl _)
   |(with_reducible exact LeO.none _)
   |(with_reducible refine LeO.ite ?_ ?_)
   |(with_reducible refine LeO.bind ?_ (fun _=> ?_))
   |exact ih0 _ _ _ _ _
   |exact ih1 _ _ _ _
   |exact ih2 _ _ _ _
   |exact spec_pcBack.mono _ _ _ _
   |exact spec_pcIs.mono _ _ _ _
   |exact spec_pcRow.mono _ _ _ _
   |exact LeO.none _
   |refine LeO.ite ?_ ?_
   |refine LeO.bind ?_ (fun _=> ?_)
  ·
   intro y0 y1 y2 y3;unfold spec_RowArrayTimes.l1
   repeat' first
   |(with_reducible exact ih0 _ _ _ _ _)
   |(with_reducible exact ih1 _ _ _ _)
   |(with_reducible exact ih2 _ _ _ _)
   |(with_reducible exact spec_pcBack.mono _ _ _ _)
   |(with_reducible exact spec_pcIs.mono _ _ _ _)
   |(with_reducible exact spec_pcRow.mono _ _ _ _)
   |(with_reducible exact LeO.refl _)
   |(with_reducible exact LeO.none _)
   |(with_reducible refine LeO.ite ?_ ?_)
   |(with_reducible refine LeO.bind ?_ (fun _=> ?_))
   |exact ih0 _ _ _ _ _
   |exact ih1 _ _ _ _
   |exact ih2 _ _ _ _
   |exact spec_pcBack.mono _ _ _ _
   |exact spec_pcIs.mono _ _ _ _
   |exact spec_pcRow.mono _ _ _ _
   |exact LeO.none _
   |refine LeO.ite ?_ ?_
   |refine LeO.bind ?_ (fun _=> ?_)
theorem spec_RowArrayTimes.mono : ∀ a0 a1 a2 a3 k, LeO (spec_RowArrayTimes.f k a0 a1 a2 a3) (spec_RowArrayTimes.f (k + 1) a0 a1 a2 a3) := by
 intro a0 a1 a2 a3 k;obtain ⟨ih0,ih1,ih2⟩:=spec_RowArrayTimes.mono_l k;unfold spec_RowArrayTimes.f
 repeat' first
  |(with_reducible exact ih0 _ _ _ _ _)
  |(with_reducible exact ih1 _ _ _ _)
  |(with_reducible exact ih2 _ _ _ _)
  |(with_reducible exact spec_pcBack.mono _ _ _ _)
  |(with_reducible exact spec_pcIs.mono _ _ _ _)
  |(with_reducible exact spec_pcRow.mono _ _ _ _)
  |(with_reducible exact LeO.refl _)
  |(with_reducible exact LeO.none _)
  |(with_reducible refine LeO.ite ?_ ?_)
  |(with_reducible refine LeO.bind ?_ (fun _=> ?_))
  |exact ih0 _ _ _ _ _
  |exact ih1 _ _ _ _
  |exact ih2 _ _ _ _
  |exact spec_pcBack.mono _ _ _ _
  |exact spec_pcIs.mono _ _ _ _
  |exact spec_pcRow.mono _ _ _ _
  |exact LeO.none _
  |refine LeO.ite ?_ ?_
  |refine LeO.bind ?_ (fun _=> ?_)
set_option maxHeartbeats 8000000 in
set_option maxRecDepth 100000 in
theorem spec_RowArrayTimes.calls (k : Nat) (A0_0 : Option Addr) (c0_0 : Nat) (l0_0 : List Int) (A1 : Option Addr) (c1 : Nat) (l1 : List Int) (a2 : Int) (a3 : Int) (r1 : List Int) (r2 : Bool) (w : World) (hr0_0 : Kd.C (Kd.int .i64) w A0_0 l0_0.length l0_0) (hc0_0 : l0_0.length ≤ c0_0) (hr1 : Kd.C (Kd.int .i64) w A1 l1.length l1) (hc1 : l1.length ≤ c1) (h : spec_RowArrayTimes.f k l0_0 l1 a2 a3 = some (r1, r2)) :
 Calls Try.prog 35 #[.agg #[.slice A0_0 l0_0.length c0_0], .slice A1 l1.length c1, .int .i64 a2, .int .i64 a3] w fun e w'=> ∃ v0_:Value,e= .returned (.tuple #[v0_, .bool r2])∧Kd.R (Kd.int .i64) 3 w' w.heap.size (fun _=>True) v0_ r1∧Below w.heap.size w w':=by
 have hu26:=Try.underlying26;have HR0_0:=Aside0.mk hr0_0;have HC0_0:=Aside0.mk hc0_0;clear hr0_0 hc0_0;have HR1:=Aside0.mk hr1;have HC1:=Aside0.mk hc1;clear hr1 hc1;have HB:=Aside0.mk (Below.refl w.heap.size w);have H:((spec_pcIs.f k l0_0 l1 a2).bind fun t614=>(if t614=true then ((spec_l1In.f a3 (-1000) 1000).bind fun t615=>(spec_RowArrayTimes.j0 k l1 a2 a3 (!t615) l0_0)) else (spec_RowArrayTimes.j0 k l1 a2 a3 true l0_0)))=some (r1,r2):=h;clear h;have HC5:=Aside0.mk H;clear H;go_enter Try.func35,Try.ntmps35;go_upto_region 1 with (first|(refine bE (N:=4) (cs:= #[.slice A0_0 l0_0.length c0_0]) (t:=26) ?_;intro gb613 hg w6 hbox hb;have BK613:=Aside0.mk (hbox);have GW613:=Aside0.mk ((by rw [hg];exact (below_size (uB HB)):w.heap.size≤gb613));have GE613:=GW613;replace HB:=Aside0.mk (below_step (uB HB) hb);clear hb hbox hg))
 (try simp only [Act.put,List.setIfInBounds_toArray,List.set_cons_zero,List.set_cons_succ])
 go_cut [20] (fun v20 wc=> ∃ (kq:Nat) (x20_4:Bool),v20= .bool x20_4∧Aside0 (spec_RowArrayTimes.j0 kq l1 a2 a3 x20_4 l0_0=some (r1,r2))∧Aside0 (kq≤k)∧Aside0 (wc.heap[gb613]? =some (.cells #[(.slice A0_0 l0_0.length c0_0)] 26 (0,0)))∧Aside0 (Below w.heap.size w wc))
 case first=>
  have H:=HC5.out;clear HC5;obtain ⟨t614,A7,H⟩:=bs H;(try dsimp only at H)
  by_cases c8:t614=true
  ·
   subst c8;rw [if_pos rfl] at H;obtain ⟨t615,A9,H⟩:=bs H;(try dsimp only at H)
   have H':=Aside0.mk H;clear H;have hcz10_0:=bC BK613;have hfz10_0:=blk_frozen BK613.out 0;go_wp2_with (first|(refine gA (some 14) Try.func69 #[.agg #[.slice A0_0 l0_0.length c0_0], .slice A1 l1.length c1, .int .i64 a2] ?_;(with_reducible refine (spec_pcIs.calls k _ _ l0_0 _ _ l1 a2 true _ (uD HR0_0 HB) HC0_0.out (uD HR1 HB) HC1.out A7.out).mono ?_);rintro e w11 ⟨rfl,hb⟩;refine ⟨_,rfl,?_⟩;replace BK613:=Aside0.mk (blk_below (uK BK613) hb);replace HB:=Aside0.mk (below_step (uB HB) hb);(try clear hb))|(go_at_call 95;(with_reducible refine (spec_l1In.calls a3 (-1000) 1000 t615 _ A9.out).mono ?_);rintro e w' ⟨rfl,⟨nd,rfl⟩⟩))
   go_meet
   case rel=>exact ⟨_,(!t615),(by first|rfl|(simp;done)|(simp [*];done)),H',⟨by first|omega|exact Nat.le_refl _⟩,⟨uK BK613⟩,⟨uB HB⟩⟩
  ·
   replace c8:=Bool.eq_false_iff.mpr c8;subst c8;rw [if_neg (show ¬ (false=true) by decide)] at H;have H':=Aside0.mk H;clear H;have hcz12_0:=bC BK613;have hfz12_0:=blk_frozen BK613.out 0;go_wp2_with (first|(refine gA (some 14) Try.func69 #[.agg #[.slice A0_0 l0_0.length c0_0], .slice A1 l1.length c1, .int .i64 a2] ?_;(with_reducible refine (spec_pcIs.calls k _ _ l0_0 _ _ l1 a2 false _ (uD HR0_0 HB) HC0_0.out (uD HR1 HB) HC1.out A7.out).mono ?_);rintro e w13 ⟨rfl,hb⟩;refine ⟨_,rfl,?_⟩;replace BK613:=Aside0.mk (blk_below (uK BK613) hb);replace HB:=Aside0.mk (below_step (uB HB) hb);(try clear hb)))
   go_meet
   case rel=>exact ⟨_,(true),(by first|rfl|(simp;done)|(simp [*];done)),H',⟨by first|omega|exact Nat.le_refl _⟩,⟨uK BK613⟩,⟨uB HB⟩⟩
 case rest=>
  clear HC5
  try clear c1
  try clear p2
  try clear c3
  try clear c6
  try clear c8
  try clear hcz10_0
  try clear hcz12_0
  try clear hfz10_0
  try clear hfz12_0
  obtain ⟨kq,x20_4,rfl,HA,HJ4,BK613,HB⟩:=hcut;cases kq with
  |zero=>exact absurd HA.out (by simp [spec_RowArrayTimes.j0])
  |succ kj4=>
   have H:=HA.out;clear HA;simp only [spec_RowArrayTimes.j0] at H
   by_cases c14:x20_4=true
   ·
    subst c14;rw [if_pos rfl] at H;simp only [Option.some.injEq,Prod.mk.injEq] at H;obtain ⟨rfl,rfl⟩:=H;go_wp2
    go_ret2
    exact ⟨_,by first|rfl|(simp [errW_none,errW_some] <;>rfl)|(simp [*,errW_none,errW_some] <;>rfl),by first|exact Kd.R_nil _ _ _ _ _|exact Kd.N_nil _ _ _ _ _|exact Kd.V_nil _ _ _ _ _|exact Kd.Q_nil _ _ _ _ _|exact Kd.S_nil _ _ _ _ _,uB HB⟩
   ·
    replace c14:=Bool.eq_false_iff.mpr c14;subst c14;rw [if_neg (show ¬ (false=true) by decide)] at H;obtain ⟨t616,A15,H⟩:=bs H;(try dsimp only at H)
    have H':=Aside0.mk H;clear H;go_wp2_with (first|(refine gA (some 22) Try.func70 #[.slice A1 l1.length c1] ?_;(with_reducible refine (spec_l1Own.calls _ _ l1 t616 _ (uD HR1 HB) HC1.out A15.out).mono ?_);rintro e w16 ⟨v617,rfl,ho0,hb⟩;refine ⟨_,rfl,?_⟩;have HO618:=Aside0.mk (Kd.R_lower ho0 (below_size (uB HB)));replace BK613:=Aside0.mk (blk_below (uK BK613) hb);replace HB:=Aside0.mk (below_step (uB HB) hb);(try clear hb ho0)))
    go_loopg [3,10] kj4 (fun kq v3 v10 w'=> ∃ (x3_2:Int) (x10_2:List Int),v3= .int .i64 x3_2∧Aside0 (spec_RowArrayTimes.l0 kq a2 x3_2 x10_2 l0_0=some (r1,r2))∧Aside0 (kq≤kj4)∧Aside0 (Kd.R (Kd.int .i64) 3 w' w.heap.size (fun _=>True) v10 x10_2)∧Aside0 (w'.heap[gb613]? =some (.cells #[(.slice A0_0 l0_0.length c0_0)] 26 (0,0)))∧Aside0 (Below w.heap.size w w'))
    case atStart=>exact ⟨(a3),(t616),(by first|rfl|(simp;done)|(simp [*];done)),H',⟨Nat.le_refl _⟩,⟨uR HO618⟩,⟨uK BK613⟩,⟨uB HB⟩⟩
    case round=>
     clear H'
     try clear c1
     try clear p2
     try clear c3
     try clear c6
     try clear c7
     try clear c8
     try clear c14
     try clear hcz10_0
     try clear hcz12_0
     try clear hfz10_0
     try clear hfz12_0
     try clear p2
     obtain ⟨x3_2,x10_2,rfl,HA,HK2,HO_10,BK613,HB⟩:=hrel;cases gk with
     |zero=>exact absurd HA.out (by simp [spec_RowArrayTimes.l0])
     |succ k2=>
      have H:=HA.out;clear HA;simp only [spec_RowArrayTimes.l0] at H
      by_cases c17:x3_2>0
      ·
       rw [if_pos c17] at H;have c17b0:=decide_eq_true c17;clear c17;obtain ⟨t619,A18,H⟩:=bs H;(try dsimp only at H)
       have H':=Aside0.mk H;clear H;have hcz19_0:=bC BK613;have hfz19_0:=blk_frozen BK613.out 0;obtain ⟨Ao20,co20,eo20⟩:=Kd.R_slice HO_10.out;subst eo20;go_wp2_with (first|(refine gA (some 30) Try.func71 #[.agg #[.slice A0_0 l0_0.length c0_0], .slice Ao20 x10_2.length co20, .int .i64 a2] ?_;(with_reducible refine (spec_pcRow.calls k2 _ _ l0_0 _ _ x10_2 a2 t619 _ (uD HR0_0 HB) HC0_0.out (uE HO_10) ?side4 A18.out).mono ?_);(case side4=>exact (Kd.R_reads' HO_10.out).2.1);rintro e w21 ⟨v620,rfl,ho0,hb⟩;refine ⟨_,rfl,?_⟩;have HO621:=Aside0.mk (Kd.R_lower (Kd.R_new' ho0 (Kd.R_lt (uR HO_10))) (below_size (uB HB)));replace HO_10:=Aside0.mk (Kd.R_elder' (uR HO_10) (Kd.R_base ho0) hb);replace BK613:=Aside0.mk (blk_below (uK BK613) hb);replace HB:=Aside0.mk (below_step (uB HB) hb);(try clear hb ho0)));go_roundg k2
       case measure=>have:=HJ4.out;have:=HK2.out;omega
       case rel=>exact ⟨(wrap64 (x3_2 - 1)),(t619),(by first|rfl|(simp;done)|(simp [*];done)),H',⟨by have:=HJ4.out;have:=HK2.out;omega⟩,⟨by (with_reducible repeat (first|apply Kd.R_alloc|apply Kd.R_drewN|apply Kd.R_drew));exact Kd.R_mono HO621.out (fun _ hk=>trivial)⟩,⟨uK BK613⟩,⟨uB HB⟩⟩
      ·
       rw [if_neg c17] at H;have c17b0:=decide_eq_false c17;clear c17;have H':=Aside0.mk H;clear H;go_wp2
       go_loopg [3,10] k2 (fun kq v3 v10 w'=> ∃ (x3_3:Int) (x10_3:List Int),v3= .int .i64 x3_3∧Aside0 (spec_RowArrayTimes.l1 kq a2 x3_3 x10_3 l0_0=some (r1,r2))∧Aside0 (kq≤k2)∧Aside0 (Kd.R (Kd.int .i64) 3 w' w.heap.size (fun _=>True) v10 x10_3)∧Aside0 (w'.heap[gb613]? =some (.cells #[(.slice A0_0 l0_0.length c0_0)] 26 (0,0)))∧Aside0 (Below w.heap.size w w'))
       case atStart=>exact ⟨(x3_2),(x10_2),(by first|rfl|(simp;done)|(simp [*];done)),H',⟨Nat.le_refl _⟩,⟨uR HO_10⟩,⟨uK BK613⟩,⟨uB HB⟩⟩
       case round=>
        clear H'
        try clear c1
        try clear p2
        try clear c3
        try clear c6
        try clear p6
        try clear c7
        try clear c8
        try clear c14
        try clear c17
        try clear c17b0
        try clear hcz10_0
        try clear hcz12_0
        try clear hcz19_0
        try clear hfz10_0
        try clear hfz12_0
        try clear hfz19_0
        try clear p2
        obtain ⟨x3_3,x10_3,rfl,HA,HK3,HO_10,BK613,HB⟩:=hrel;cases gk with
        |zero=>exact absurd HA.out (by simp [spec_RowArrayTimes.l1])
        |succ k3=>
         have H:=HA.out;clear HA;simp only [spec_RowArrayTimes.l1] at H
         by_cases c22:x3_3<0
         ·
          rw [if_pos c22] at H;have c22b0:=decide_eq_true c22;clear c22;obtain ⟨t622,A23,H⟩:=bs H;(try dsimp only at H)
          have H':=Aside0.mk H;clear H;have hcz24_0:=bC BK613;have hfz24_0:=blk_frozen BK613.out 0;obtain ⟨Ao25,co25,eo25⟩:=Kd.R_slice HO_10.out;subst eo25;go_wp2_with (first|(refine gA (some 38) Try.func87 #[.agg #[.slice A0_0 l0_0.length c0_0], .slice Ao25 x10_3.length co25, .int .i64 a2] ?_;(with_reducible refine (spec_pcBack.calls k3 _ _ l0_0 _ _ x10_3 a2 t622 _ (uD HR0_0 HB) HC0_0.out (uE HO_10) ?side4 A23.out).mono ?_);(case side4=>exact (Kd.R_reads' HO_10.out).2.1);rintro e w26 ⟨v623,rfl,ho0,hb⟩;refine ⟨_,rfl,?_⟩;have HO624:=Aside0.mk (Kd.R_lower (Kd.R_new' ho0 (Kd.R_lt (uR HO_10))) (below_size (uB HB)));replace HO_10:=Aside0.mk (Kd.R_elder' (uR HO_10) (Kd.R_base ho0) hb);replace BK613:=Aside0.mk (blk_below (uK BK613) hb);replace HB:=Aside0.mk (below_step (uB HB) hb);(try clear hb ho0)));go_roundg k3
          case measure=>have:=HJ4.out;have:=HK2.out;have:=HK3.out;omega
          case rel=>exact ⟨(wrap64 (x3_3+1)),(t622),(by first|rfl|(simp;done)|(simp [*];done)),H',⟨by have:=HJ4.out;have:=HK2.out;have:=HK3.out;omega⟩,⟨by (with_reducible repeat (first|apply Kd.R_alloc|apply Kd.R_drewN|apply Kd.R_drew));exact Kd.R_mono HO624.out (fun _ hk=>trivial)⟩,⟨uK BK613⟩,⟨uB HB⟩⟩
         ·
          rw [if_neg c22] at H;have c22b0:=decide_eq_false c22;clear c22;simp only [Option.some.injEq,Prod.mk.injEq] at H;obtain ⟨rfl,rfl⟩:=H;go_wp2
          go_ret2
          exact ⟨_,by first|rfl|(simp [errW_none,errW_some] <;>rfl)|(simp [*,errW_none,errW_some] <;>rfl),uR HO_10,uB HB⟩
end Go.Proofs.Ytkgngggppcmpfaa.L
end
