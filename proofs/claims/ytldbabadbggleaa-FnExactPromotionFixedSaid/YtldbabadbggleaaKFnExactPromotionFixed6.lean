/- Laws about the given program: the law FnExactPromotionFixed answers true for every input that its row lets in; no condition is added to the given statement. Contracts of the Go functions that it reaches, and the plain proof over lists. -/
import Derived.Below
import Derived.ChangeOld
import Derived.Laws.BitsLemmas
import Derived.Lib.SmallJoins
import Derived.OpenShut
import Derived.ProofKit
import Derived.ShutString
import Derived.SizedLaws
import Derived.WalkKit
import Derived.Test.YtldbabadbggleaaWFnExactPromotionFixed0
import Derived.Test.YtldbabadbggleaaKFnExactPromotionFixed0
import Derived.Test.YtldbabadbggleaaKFnExactPromotionFixed1
import Derived.Test.YtldbabadbggleaaKFnExactPromotionFixed2
import Derived.Test.YtldbabadbggleaaKFnExactPromotionFixed3
import Derived.Test.YtldbabadbggleaaKFnExactPromotionFixed4
import Derived.Test.YtldbabadbggleaaKFnExactPromotionFixed5
section
namespace Go.Proofs.Ytldbabadbggleaa.L
open Go.RowKit Go.Proofs.YtldbabadbggleaaW.PrintWords Go.Proofs.YtldbabadbggleaaW.PrintLast Go.Proofs.YtldbabadbggleaaW.PrintMore
attribute [local go_sem] max2_int min2_int max_two min_two max_three min_three max_four min_four
set_option linter.unusedVariables false
set_option linter.unusedSimpArgs false
def impl_PromotionFixed.j0 : Nat → Int → Int → Int → Bool → Option (Int × Bool)
  | 0, _, _, _, _ => none
  | k + 1, x0, x1, x2, x16 => if x16 = true then (some (0, false)) else ((impl_promotionLengths.f k x0 x1).bind fun t284 => ((impl_fixed.f k t284 x2).bind fun t287 => (some (t287, true))))
def impl_PromotionFixed.f (k : Nat) (a0 : Int) (a1 : Int) (a2 : Int) : Option (Int × Bool) := (impl_areSides.f a0 a1 10).bind fun t282 => (if t282 = true then ((impl_within.f a2 0 60).bind fun t283 => (impl_PromotionFixed.j0 k a0 a1 a2 (!t283))) else (impl_PromotionFixed.j0 k a0 a1 a2 true))
theorem impl_PromotionFixed.mono_l : ∀ k, (∀ y0 y1 y2 y3, LeO (impl_PromotionFixed.j0 k y0 y1 y2 y3) (impl_PromotionFixed.j0 (k + 1) y0 y1 y2 y3))
  | 0 => fun _ _ _ _ r h => by simp [impl_PromotionFixed.j0] at h
  | k + 1 => by
    have ih0 := impl_PromotionFixed.mono_l k
    · intro y0 y1 y2 y3
      unfold impl_PromotionFixed.j0
      repeat' first
      | (with_reducible exact ih0 _ _ _ _)
      | (with_reducible exact impl_fixed.mono _ _ _)
      | (with_reducible exact impl_promotionLengths.mono _ _ _)
      | (with_reducible exact LeO.refl _)
      | (with_reducible exact LeO.none _)
      | (with_reducible refine LeO.ite ?_ ?_)
      | (with_reducible refine LeO.bind ?_ (fun _ => ?_))
      | exact ih0 _ _ _ _
      | exact impl_fixed.mono _ _ _
      | exact impl_promotionLengths.mono _ _ _
      | exact LeO.none _
      | refine LeO.ite ?_ ?_
      | refine LeO.bind ?_ (fun _ => ?_)
theorem impl_PromotionFixed.mono : ∀ a0 a1 a2 k, LeO (impl_PromotionFixed.f k a0 a1 a2) (impl_PromotionFixed.f (k + 1) a0 a1 a2) := by
  intro a0 a1 a2 k
  have ih0 := impl_PromotionFixed.mono_l k
  unfold impl_PromotionFixed.f
  repeat' first
      | (with_reducible exact ih0 _ _ _ _)
      | (with_reducible exact impl_fixed.mono _ _ _)
      | (with_reducible exact impl_promotionLengths.mono _ _ _)
      | (with_reducible exact LeO.refl _)
      | (with_reducible exact LeO.none _)
      | (with_reducible refine LeO.ite ?_ ?_)
      | (with_reducible refine LeO.bind ?_ (fun _ => ?_))
      | exact ih0 _ _ _ _
      | exact impl_fixed.mono _ _ _
      | exact impl_promotionLengths.mono _ _ _
      | exact LeO.none _
      | refine LeO.ite ?_ ?_
      | refine LeO.bind ?_ (fun _ => ?_)
set_option maxHeartbeats 8000000 in
set_option maxRecDepth 100000 in
theorem impl_PromotionFixed.calls (k : Nat) (a0 : Int) (a1 : Int) (a2 : Int) (r1 : Int) (r2 : Bool) (w : World) (h : impl_PromotionFixed.f k a0 a1 a2 = some (r1, r2)) :
    Calls Try.prog 22 #[.int .i64 a0, .int .i64 a1, .int .i64 a2] w fun e w' => e = .returned (.tuple #[.int .i64 r1, .bool r2]) ∧ Below w.heap.size w w' := by
  have HB := Aside0.mk (Below.refl w.heap.size w)
  have H : ((impl_areSides.f a0 a1 10).bind fun t282 => (if t282 = true then ((impl_within.f a2 0 60).bind fun t283 => (impl_PromotionFixed.j0 k a0 a1 a2 (!t283))) else (impl_PromotionFixed.j0 k a0 a1 a2 true))) = some (r1, r2) := h
  clear h
  have HC4 := Aside0.mk H
  clear H
  go_enter Try.func22, Try.ntmps22
  go_upto_region 1 with (fail)
  go_cut [16] (fun v16 wc => ∃ (kq : Nat) (x16_3 : Bool), v16 = .bool x16_3 ∧ Aside0 (impl_PromotionFixed.j0 kq a0 a1 a2 x16_3 = some (r1, r2)) ∧ Aside0 (kq ≤ k) ∧ Aside0 (Below w.heap.size w wc))
  case first =>
    have H := HC4.out
    clear HC4
    replace H := Option.bind_eq_some_iff.mp H
    obtain ⟨t282, A50, H⟩ := H
    replace H : (if t282 = true then ((impl_within.f a2 0 60).bind fun t283 => (impl_PromotionFixed.j0 k a0 a1 a2 (!t283))) else (impl_PromotionFixed.j0 k a0 a1 a2 true)) = some (r1, r2) := H
    have A5 := Aside0.mk A50
    clear A50
    by_cases c6 : t282 = true
    · subst c6
      have H1 : ((impl_within.f a2 0 60).bind fun t283 => (impl_PromotionFixed.j0 k a0 a1 a2 (!t283))) = some (r1, r2) := by rw [if_pos rfl] at H; exact H
      clear H
      have H := H1
      clear H1
      replace H := Option.bind_eq_some_iff.mp H
      obtain ⟨t283, A70, H⟩ := H
      replace H : (impl_PromotionFixed.j0 k a0 a1 a2 (!t283)) = some (r1, r2) := H
      have A7 := Aside0.mk A70
      clear A70
      have H' := Aside0.mk H
      clear H
      go_wp2_with (first | ((with_reducible refine gate_callee (f := 37) rfl ?_); refine goesL_ (some 10) rfl rfl Try.func37 (by kernel_rfl) rfl #[.int .i64 a0, .int .i64 a1, .int .i64 10] rfl (by (try simp only [List.map_toArray, List.map_cons, List.map_nil]); first | done | rfl | (simp only [List.length_drop, List.length_take]; rfl)) ?_; (with_reducible refine (impl_areSides.calls a0 a1 10 true _ A5.out).mono ?_); rintro e w' ⟨rfl, ⟨nd, rfl⟩⟩; refine ⟨_, rfl, ?_⟩) | (go_at_call 31; (with_reducible refine (impl_within.calls a2 0 60 t283 _ A7.out).mono ?_); rintro e w' ⟨rfl, ⟨nd, rfl⟩⟩))
      go_meet
      case rel => exact ⟨_, (!t283), (by first | rfl | (simp; done) | (simp [*]; done)), H', ⟨by first | omega | exact Nat.le_refl _⟩, ⟨by repeat (first | (with_reducible first | exact HB.out | apply below_alloc | apply pw_below_drewN | apply below_drew1) | exact HB.out)⟩⟩
    · replace c6 := Bool.eq_false_iff.mpr c6
      subst c6
      have H1 : (impl_PromotionFixed.j0 k a0 a1 a2 true) = some (r1, r2) := by rw [if_neg (show ¬ (false = true) by decide)] at H; exact H
      clear H
      have H := H1
      clear H1
      have H' := Aside0.mk H
      clear H
      go_wp2_with (first | ((with_reducible refine gate_callee (f := 37) rfl ?_); refine goesL_ (some 10) rfl rfl Try.func37 (by kernel_rfl) rfl #[.int .i64 a0, .int .i64 a1, .int .i64 10] rfl (by (try simp only [List.map_toArray, List.map_cons, List.map_nil]); first | done | rfl | (simp only [List.length_drop, List.length_take]; rfl)) ?_; (with_reducible refine (impl_areSides.calls a0 a1 10 false _ A5.out).mono ?_); rintro e w' ⟨rfl, ⟨nd, rfl⟩⟩; refine ⟨_, rfl, ?_⟩))
      go_meet
      case rel => exact ⟨_, (true), (by first | rfl | (simp; done) | (simp [*]; done)), H', ⟨by first | omega | exact Nat.le_refl _⟩, ⟨by repeat (first | (with_reducible first | exact HB.out | apply below_alloc | apply pw_below_drewN | apply below_drew1) | exact HB.out)⟩⟩
  case rest =>
    clear HC4
    try clear c2
    try clear p2
    try clear c3
    try clear c6
    obtain ⟨kq, x16_3, rfl, HA, HJ3, HB⟩ := hcut
    cases kq with
    | zero => exact absurd HA.out (by simp [impl_PromotionFixed.j0])
    | succ kj3 =>
      have H := HA.out
      clear HA
      simp only [impl_PromotionFixed.j0] at H
      by_cases c8 : x16_3 = true
      · subst c8
        have H1 : (some (0, false)) = some (r1, r2) := by rw [if_pos rfl] at H; exact H
        clear H
        have H := H1
        clear H1
        simp only [Option.some.injEq, Prod.mk.injEq] at H
        obtain ⟨rfl, rfl⟩ := H
        go_wp2
        go_ret2
        exact ⟨by first | rfl | (simp [errW_none, errW_some] <;> rfl) | (simp [*, errW_none, errW_some] <;> rfl), by repeat (first | (with_reducible first | exact HB.out | apply below_alloc | apply pw_below_drewN | apply below_drew1) | exact HB.out)⟩
      · replace c8 := Bool.eq_false_iff.mpr c8
        subst c8
        have H1 : ((impl_promotionLengths.f kj3 a0 a1).bind fun t284 => ((impl_fixed.f kj3 t284 a2).bind fun t287 => (some (t287, true)))) = some (r1, r2) := by rw [if_neg (show ¬ (false = true) by decide)] at H; exact H
        clear H
        have H := H1
        clear H1
        replace H := Option.bind_eq_some_iff.mp H
        obtain ⟨t284, A90, H⟩ := H
        replace H : ((impl_fixed.f kj3 t284 a2).bind fun t287 => (some (t287, true))) = some (r1, r2) := H
        have A9 := Aside0.mk A90
        clear A90
        replace H := Option.bind_eq_some_iff.mp H
        obtain ⟨t287, A100, H⟩ := H
        replace H : (some (t287, true)) = some (r1, r2) := H
        have A10 := Aside0.mk A100
        clear A100
        simp only [Option.some.injEq, Prod.mk.injEq] at H
        obtain ⟨rfl, rfl⟩ := H
        go_wp2_with (first | ((with_reducible refine gate_callee (f := 43) rfl ?_); refine goesL_ (some 19) rfl rfl Try.func43 (by kernel_rfl) rfl #[.int .i64 a0, .int .i64 a1] rfl (by (try simp only [List.map_toArray, List.map_cons, List.map_nil]); first | done | rfl | (simp only [List.length_drop, List.length_take]; rfl)) ?_; (with_reducible refine (impl_promotionLengths.calls kj3 a0 a1 t284 _ A9.out).mono ?_); rintro e w11 ⟨v285, rfl, ho0, hb⟩; refine ⟨_, rfl, ?_⟩; have n0_ := Aside0.mk (Kd.R_lower ho0 (below_size (by repeat (first | (with_reducible first | exact HB.out | apply below_alloc | apply pw_below_drewN | apply below_drew1) | exact HB.out)))); have n1_ := Aside0.mk (below_step (by repeat (first | (with_reducible first | exact HB.out | apply below_alloc | apply pw_below_drewN | apply below_drew1) | exact HB.out)) hb); clear HB; have HO286 := n0_; have HB := n1_; clear n0_ n1_; (try clear hb); (try clear hb2); (try clear hk); (try clear hi); (try clear ho0); obtain ⟨Ao12, co12, eo12⟩ := Kd.R_slice HO286.out; subst eo12) | ((with_reducible refine gate_callee (f := 42) rfl ?_); refine goesL_ (some 21) rfl rfl Try.func42 (by kernel_rfl) rfl #[.slice Ao12 t284.length co12, .int .i64 a2] rfl (by (try simp only [List.map_toArray, List.map_cons, List.map_nil]); first | done | rfl | (simp only [List.length_drop, List.length_take]; rfl)) ?_; (with_reducible refine (impl_fixed.calls kj3 _ _ t284 a2 t287 _ ?side1 ?side2 A10.out).mono ?_); (case side1 => repeat (first | exact (Kd.R_reads' HO286.out).2.2 | (with_reducible refine Kd.C_alloc ?_ _) | (with_reducible refine Kd.C_drewN ?_ _) | (with_reducible refine Kd.C_drew ?_))); (case side2 => exact (Kd.R_reads' HO286.out).2.1); rintro e w' ⟨rfl, ⟨nd, rfl⟩⟩; refine ⟨_, rfl, ?_⟩))
        go_ret2
        exact ⟨by first | rfl | (simp [errW_none, errW_some] <;> rfl) | (simp [*, errW_none, errW_some] <;> rfl), by repeat (first | (with_reducible first | exact HB.out | apply below_alloc | apply pw_below_drewN | apply below_drew1) | exact HB.out)⟩
def laws_FnExactPromotionFixed.f (k : Nat) (a0 : Int) (a1 : Int) (a2 : Int) : Option (Bool) := (spec_PromotionFixed.f k a0 a1 a2).bind fun bt288 => ((impl_PromotionFixed.f k a0 a1 a2).bind fun bt290 => (if bt290.1 = bt288.1 then (if (bt290.2 != bt288.2) = true then (none) else (some true)) else (none)))
theorem laws_FnExactPromotionFixed.mono : ∀ a0 a1 a2 k, LeO (laws_FnExactPromotionFixed.f k a0 a1 a2) (laws_FnExactPromotionFixed.f (k + 1) a0 a1 a2) := by
  intro a0 a1 a2 k
  unfold laws_FnExactPromotionFixed.f
  repeat' first
      | (with_reducible exact impl_PromotionFixed.mono _ _ _ _)
      | (with_reducible exact spec_PromotionFixed.mono _ _ _ _)
      | (with_reducible exact LeO.refl _)
      | (with_reducible exact LeO.none _)
      | (with_reducible refine LeO.ite ?_ ?_)
      | (with_reducible refine LeO.bind ?_ (fun _ => ?_))
      | exact impl_PromotionFixed.mono _ _ _ _
      | exact spec_PromotionFixed.mono _ _ _ _
      | exact LeO.none _
      | refine LeO.ite ?_ ?_
      | refine LeO.bind ?_ (fun _ => ?_)
set_option maxHeartbeats 8000000 in
set_option maxRecDepth 100000 in
theorem laws_FnExactPromotionFixed.calls (k : Nat) (a0 : Int) (a1 : Int) (a2 : Int) (r : Bool) (w : World) (h : laws_FnExactPromotionFixed.f k a0 a1 a2 = some r) :
    Calls Try.prog 5 #[.int .i64 a0, .int .i64 a1, .int .i64 a2] w fun e w' => e = .returned (.bool r) ∧ Below w.heap.size w w' := by
  have HB := Aside0.mk (Below.refl w.heap.size w)
  have H : ((spec_PromotionFixed.f k a0 a1 a2).bind fun bt288 => ((impl_PromotionFixed.f k a0 a1 a2).bind fun bt290 => (if bt290.1 = bt288.1 then (if (bt290.2 != bt288.2) = true then (none) else (some true)) else (none)))) = some r := h
  clear h
  replace H := Option.bind_eq_some_iff.mp H
  obtain ⟨⟨t288, t289⟩, A40, H⟩ := H
  replace H : ((impl_PromotionFixed.f k a0 a1 a2).bind fun bt290 => (if bt290.1 = t288 then (if (bt290.2 != t289) = true then (none) else (some true)) else (none))) = some r := H
  have A4 := Aside0.mk A40
  clear A40
  replace H := Option.bind_eq_some_iff.mp H
  obtain ⟨⟨t290, t291⟩, A50, H⟩ := H
  replace H : (if t290 = t288 then (if (t291 != t289) = true then (none) else (some true)) else (none)) = some r := H
  have A5 := Aside0.mk A50
  clear A50
  by_cases c6 : t290 = t288
  · rw [if_pos c6] at H
    have c6b0 : (t290 == t288) = true := beq_iff_eq.mpr c6
    have c6b1 : (t290 != t288) = false := bne_eq_false_iff_eq.mpr c6
    clear c6
    by_cases c7 : (t291 != t289) = true
    · rw [if_pos c7] at H
      exact absurd H (by simp)
    · rw [if_neg c7] at H
      have c7b0 : (t291 != t289) = false := by simpa using c7
      (try (have c7b1 : decide (t291 = t289) = true := by simpa using c7))
      (try (have c7b2 : (t291 == t289) = true := by simpa using c7))
      clear c7
      obtain rfl := Option.some.inj H
      go_enter Try.func5, Try.ntmps5
      go_wp2_with (first | ((with_reducible refine gate_callee (f := 21) rfl ?_); refine goesL_ (some 15) rfl rfl Try.func21 (by kernel_rfl) rfl #[.int .i64 a0, .int .i64 a1, .int .i64 a2] rfl (by (try simp only [List.map_toArray, List.map_cons, List.map_nil]); first | done | rfl | (simp only [List.length_drop, List.length_take]; rfl)) ?_; (with_reducible refine (spec_PromotionFixed.calls k a0 a1 a2 t288 t289 _ A4.out).mono ?_); rintro e w8 ⟨rfl, hb⟩; refine ⟨_, rfl, ?_⟩; have n0_ := Aside0.mk (below_step (by repeat (first | (with_reducible first | exact HB.out | apply below_alloc | apply pw_below_drewN | apply below_drew1) | exact HB.out)) hb); clear HB; have HB := n0_; clear n0_; (try clear hb); (try clear hb2); (try clear hk); (try clear hi)) | ((with_reducible refine gate_callee (f := 22) rfl ?_); refine goesL_ (some 22) rfl rfl Try.func22 (by kernel_rfl) rfl #[.int .i64 a0, .int .i64 a1, .int .i64 a2] rfl (by (try simp only [List.map_toArray, List.map_cons, List.map_nil]); first | done | rfl | (simp only [List.length_drop, List.length_take]; rfl)) ?_; (with_reducible refine (impl_PromotionFixed.calls k a0 a1 a2 t290 t291 _ A5.out).mono ?_); rintro e w9 ⟨rfl, hb⟩; refine ⟨_, rfl, ?_⟩; have n0_ := Aside0.mk (below_step (by repeat (first | (with_reducible first | exact HB.out | apply below_alloc | apply pw_below_drewN | apply below_drew1) | exact HB.out)) hb); clear HB; have HB := n0_; clear n0_; (try clear hb); (try clear hb2); (try clear hk); (try clear hi)))
      go_ret
      exact ⟨by first | rfl | (simp [errW_none, errW_some] <;> rfl) | (simp [*, errW_none, errW_some] <;> rfl), by repeat (first | (with_reducible first | exact HB.out | apply below_alloc | apply pw_below_drewN | apply below_drew1) | exact HB.out)⟩
  · rw [if_neg c6] at H
    exact absurd H (by simp)
def laws_FnExactPromotionFixed.Pure : Prop := ∀ (a0 : Int) (a1 : Int) (a2 : Int), (Lit.int .i64 a0).wf = true → (Lit.int .i64 a1).wf = true → (Lit.int .i64 a2).wf = true → ∃ k, laws_FnExactPromotionFixed.f k a0 a1 a2 = some true
theorem laws_FnExactPromotionFixed.walk (P : laws_FnExactPromotionFixed.Pure) (a0 : Int) (a1 : Int) (a2 : Int) (w : World) (w0 : (Lit.int .i64 a0).wf = true) (w1 : (Lit.int .i64 a1).wf = true) (w2 : (Lit.int .i64 a2).wf = true) :
    Calls Try.prog 5 #[.int .i64 a0, .int .i64 a1, .int .i64 a2] w fun e w' => e = .returned (.bool true) ∧ Below w.heap.size w w' := by
  obtain ⟨k, h⟩ := P a0 a1 a2 w0 w1 w2
  refine (laws_FnExactPromotionFixed.calls k a0 a1 a2 true w h).mono ?_
  rintro e w' ⟨rfl, hd⟩
  exact ⟨rfl, hd⟩
end Go.Proofs.Ytldbabadbggleaa.L
end
section
namespace Go.Proofs.Ytldbabadbggleaa.L
open Go.RowKit Go.Proofs.YtldbabadbggleaaW.PrintWords Go.Proofs.YtldbabadbggleaaW.PrintLast
def laws_FnExactPromotionFixed.Pure2 : Prop := ∀ (a0 : Int) (a1 : Int) (a2 : Int), (Lit.int .i64 a0).wf = true → (Lit.int .i64 a1).wf = true → (Lit.int .i64 a2).wf = true → ∃ k, laws_FnExactPromotionFixed.f k a0 a1 a2 = some true
end Go.Proofs.Ytldbabadbggleaa.L
end
section
namespace Go.Proofs.Ytldbabadbggleaa.M
open Go.RowKit Go.Proofs.YtldbabadbggleaaW.PrintWords Go.Proofs.YtldbabadbggleaaW.PrintLast Go.Proofs.YtldbabadbggleaaW.PrintMore
theorem wrap_id {x : Int} (h0 : -9223372036854775808 ≤ x) (h1 : x ≤ 9223372036854775807) : wrap64 x = x := by unfold wrap64; omega
theorem wrap_succ {i : Nat} (h : i < 9223372036854775807) : wrap64 ((i : Int) + 1) = ((i + 1 : Nat) : Int) := by unfold wrap64; omega
theorem rd_get {l : List Int} {i : Nat} (h : i < l.length) : rd l (i : Int) = l[i] := by simp [rd, List.getD_eq_getElem?_getD, h]
theorem ev_ite {α : Type} {c : Prop} [Decidable c] {f g : Nat → Option α} {r : α} (h1 : c → Ev f r) (h2 : ¬ c → Ev g r) : Ev (fun k => if c then f k else g k) r := by
  by_cases h : c
  · obtain ⟨K, hK⟩ := h1 h; exact ⟨K, fun k hk => by simp only [if_pos h]; exact hK k hk⟩
  · obtain ⟨K, hK⟩ := h2 h; exact ⟨K, fun k hk => by simp only [if_neg h]; exact hK k hk⟩
theorem ev_pos {α : Type} {c : Prop} [Decidable c] {f g : Nat → Option α} {r : α} (h : c) (h1 : Ev f r) : Ev (fun k => if c then f k else g k) r := ev_ite (fun _ => h1) (fun h2 => absurd h h2)
theorem ev_neg {α : Type} {c : Prop} [Decidable c] {f g : Nat → Option α} {r : α} (h : ¬ c) (h1 : Ev g r) : Ev (fun k => if c then f k else g k) r := ev_ite (fun h2 => absurd h2 h) (fun _ => h1)
theorem ev_call {α β : Type} {x : Option α} {a : α} {f : Nat → α → Option β} {r : β} (h : x = some a) (k : Ev (fun n => f n a) r) : Ev (fun n => x.bind (f n)) r := by subst h; simpa using k
def inB (x lo hi : Int) : Bool := decide (lo ≤ x) && decide (x ≤ hi)
theorem inB_iff {x lo hi : Int} : inB x lo hi = true ↔ lo ≤ x ∧ x ≤ hi := by simp [inB]
end Go.Proofs.Ytldbabadbggleaa.M
end
section
namespace Go.Proofs.Ytldbabadbggleaa.M
open Go.RowKit Go.Proofs.YtldbabadbggleaaW.PrintWords Go.Proofs.YtldbabadbggleaaW.PrintLast Go.Proofs.YtldbabadbggleaaW.PrintMore Go.Proofs.Ytldbabadbggleaa.L
theorem l1In_eq (x lo hi : Int) : spec_l1In.f x lo hi = some (inB x lo hi) := by
  unfold spec_l1In.f inB
  by_cases h : lo ≤ x <;> simp [h]
theorem within_eq (x lo hi : Int) : impl_within.f x lo hi = some (inB x lo hi) := by
  unfold impl_within.f inB
  by_cases h : lo ≤ x <;> simp [h]
end Go.Proofs.Ytldbabadbggleaa.M
end
section
namespace Go.Proofs.Ytldbabadbggleaa.M
open Go.RowKit Go.Proofs.YtldbabadbggleaaW.PrintWords Go.Proofs.YtldbabadbggleaaW.PrintLast Go.Proofs.YtldbabadbggleaaW.PrintMore Go.Proofs.Ytldbabadbggleaa.L
set_option linter.unusedVariables false
def sidesB (a b : Int) : Bool := inB a 1 10 && inB b 1 10 && decide (a * b ≤ 10)
theorem mul_small {a b : Int} (h1 : inB a 1 10 = true) (h2 : inB b 1 10 = true) : wrap64 (a * b) = a * b := by
  have b1 := inB_iff.mp h1
  have b2 := inB_iff.mp h2
  have h3 : 0 ≤ a * b := Int.mul_nonneg (by omega) (by omega)
  have h4 : a * b ≤ 10 * 10 := Int.mul_le_mul b1.2 b2.2 (by omega) (by omega)
  exact wrap_id (by omega) (by omega)
theorem shSides_eq (a b : Int) : spec_shSides.f a b = some (sidesB a b) := by
  unfold spec_shSides.f sidesB
  rw [l1In_eq, l1In_eq]
  cases h1 : inB a 1 10
  · rfl
  · cases h2 : inB b 1 10
    · rfl
    · rw [mul_small h1 h2]; rfl
theorem areSides_eq (a b : Int) : impl_areSides.f a b 10 = some (sidesB a b) := by
  unfold impl_areSides.f sidesB
  rw [within_eq, within_eq]
  cases h1 : inB a 1 10
  · rfl
  · cases h2 : inB b 1 10
    · rfl
    · rw [mul_small h1 h2]; rfl
end Go.Proofs.Ytldbabadbggleaa.M
end
section
namespace Go.Proofs.Ytldbabadbggleaa.M
open Go.RowKit Go.Proofs.YtldbabadbggleaaW.PrintWords Go.Proofs.YtldbabadbggleaaW.PrintLast Go.Proofs.YtldbabadbggleaaW.PrintMore
theorem wrap_nat {x : Nat} (h : x < 2 ^ 63) : IntKind.i64.wrap (x : Int) = (x : Int) := by
  rw [IntKind.wrap_i64]
  have : (x : Int) < 9223372036854775808 := by
    have h2 : (2 : Nat) ^ 63 = 9223372036854775808 := by decide
    omega
  omega
theorem ofInt_nat {a : Nat} (h : a < 2 ^ 63) : (BitVec.ofInt IntKind.i64.bits (a : Int)).toNat = a := by
  have e : IntKind.i64.bits = 64 := rfl
  rw [e, BitVec.ofInt_natCast, BitVec.toNat_ofNat]
  exact Nat.mod_eq_of_lt (Nat.lt_of_lt_of_le h (by decide))
theorem bits_or {a b : Nat} (ha : a < 2 ^ 63) (hb : b < 2 ^ 63) : Go.bits .or .i64 (a : Int) (b : Int) = ((a ||| b : Nat) : Int) := by
  simp only [Go.bits, BitVec.toNat_or, ofInt_nat ha, ofInt_nat hb]
  exact wrap_nat (Nat.or_lt_two_pow ha hb)
theorem shl_one {i : Nat} (h : i < 63) : shl .i64 1 (i : Int) = ((2 ^ i : Nat) : Int) := by
  unfold shl
  have e : min (i : Int).toNat IntKind.i64.bits = i := by
    have : IntKind.i64.bits = 64 := rfl
    rw [this, Int.toNat_natCast]; omega
  rw [e, Int.one_mul]
  have : ((2 : Int) ^ i) = ((2 ^ i : Nat) : Int) := by simp
  rw [this]
  exact wrap_nat (Nat.pow_lt_pow_right (by decide) h)
theorem shr_nat {a i : Nat} (h : i ≤ 64) : shr .i64 (a : Int) (i : Int) = ((a / 2 ^ i : Nat) : Int) := by
  unfold shr
  have e : min (i : Int).toNat IntKind.i64.bits = i := by
    have : IntKind.i64.bits = 64 := rfl
    rw [this, Int.toNat_natCast]; omega
  rw [e]; simp
theorem bit_mod {a i : Nat} (h : i ≤ 64) : (Int.tmod (shr .i64 (a : Int) (i : Int)) 2 == 1) = a.testBit i := by
  rw [shr_nat h]
  have : Int.tmod ((a / 2 ^ i : Nat) : Int) 2 = ((a / 2 ^ i % 2 : Nat) : Int) := by
    rw [show (2 : Int) = ((2 : Nat) : Int) from rfl, Int.ofNat_tmod]
  rw [this, Nat.testBit_eq_decide_div_mod_eq, Bool.eq_iff_iff, beq_iff_eq, decide_eq_true_eq]
  omega
end Go.Proofs.Ytldbabadbggleaa.M
end
section
namespace Go.Proofs.Ytldbabadbggleaa.M
set_option linter.unusedVariables false
open Go.RowKit Go.Proofs.YtldbabadbggleaaW.PrintWords Go.Proofs.YtldbabadbggleaaW.PrintLast Go.Proofs.YtldbabadbggleaaW.PrintMore
def toI (p : List Nat) : List Int := p.map fun (x : Nat) => (x : Int)
@[simp] theorem toI_len (p : List Nat) : (toI p).length = p.length := by simp [toI]
@[simp] theorem toI_nil : toI [] = [] := rfl
def less (p : List Nat) (i : Nat) : Nat := p.getD i 0
structure Good (p : List Nat) : Prop where
  pos : 1 ≤ p.length
  le : p.length ≤ 10
  lt : ∀ i, i < p.length → less p i < 2 ^ i
  tr : ∀ i, i < p.length → ∀ j, (less p i).testBit j = true → ∀ m, (less p j).testBit m = true → (less p i).testBit m = true
end Go.Proofs.Ytldbabadbggleaa.M
end
section
namespace Go.Proofs.Ytldbabadbggleaa.M
open Go.RowKit Go.Proofs.YtldbabadbggleaaW.PrintWords Go.Proofs.YtldbabadbggleaaW.PrintLast Go.Proofs.YtldbabadbggleaaW.PrintMore Go.Proofs.Ytldbabadbggleaa.L
set_option linter.unusedVariables false
theorem poIn_eq {s e : Nat} (he : e ≤ 64) : spec_poIn.f (s : Int) (e : Int) = some (s.testBit e) := by
  unfold spec_poIn.f; rw [if_pos (by omega), bit_mod he]
theorem pow_small {i : Nat} (h : i ≤ 10) : 2 ^ i ≤ 1024 := by
  have := Nat.pow_le_pow_right (n := 2) (by decide) h
  simpa using this
theorem rd_getD (l : List Int) (i : Nat) : rd l (i : Int) = l.getD i 0 := by simp [rd]
def cT (p : List Int) (s i : Nat) : Bool := !(s.testBit i) && decide (Go.bits .andNot .i64 (rd p (i : Int)) (s : Int) = 0)
def cN (p : List Int) (F : Nat) : Nat → Nat → Int
  | 0, _ => 0
  | d + 1, s => if s = F then 1 else (List.range p.length).foldl (fun a i => if cT p s i = true then wrap64 (a + cN p F d (s ||| 2 ^ i)) else a) 0
def cL (p : List Int) (F : Nat) : Nat → Nat → List Int
  | 0, _ => []
  | m + 1, s => cN p F (F + 1) s :: cL p F m (s + 1)
theorem cL_len (p : List Int) (F : Nat) : ∀ m s, (cL p F m s).length = m
  | 0, _ => rfl
  | m + 1, s => by rw [cL, List.length_cons, cL_len p F m]
theorem cL_get (p : List Int) (F : Nat) : ∀ m s i, i < m → (cL p F m s).getD i 0 = cN p F (F + 1) (s + i)
  | 0, _, _, h => by omega
  | m + 1, s, 0, h => by rw [cL]; rfl
  | m + 1, s, i + 1, h => by
    rw [cL, List.getD_cons_succ, cL_get p F m (s + 1) i (by omega), show s + 1 + i = s + (i + 1) by omega]
theorem foldl_same {α β : Type} {f g : α → β → α} : ∀ (l : List β) (a : α), (∀ a, ∀ b ∈ l, f a b = g a b) → l.foldl f a = l.foldl g a
  | [], a, h => rfl
  | b :: l, a, h => by
    rw [List.foldl_cons, List.foldl_cons, h a b List.mem_cons_self]
    exact foldl_same l _ (fun a b hb => h a b (List.mem_cons_of_mem _ hb))
theorem or_gt {s i n : Nat} (hi : i < n) (hs : s < 2 ^ n) (hb : s.testBit i = false) : s < s ||| 2 ^ i ∧ s ||| 2 ^ i < 2 ^ n := by
  constructor
  · have h1 : s ≤ s ||| 2 ^ i := Nat.left_le_or
    rcases Nat.lt_or_ge s (s ||| 2 ^ i) with h | h
    · exact h
    · have e : s = s ||| 2 ^ i := by omega
      have : (s ||| 2 ^ i).testBit i = true := by rw [Nat.testBit_or, Nat.testBit_two_pow_self, Bool.or_true]
      rw [← e, hb] at this
      cases this
  · exact Nat.or_lt_two_pow hs (Nat.pow_lt_pow_right (by decide) hi)
theorem cN_stable (p : List Int) {F : Nat} (hF : F = 2 ^ p.length - 1) : ∀ (d d' s : Nat), s ≤ F → F < d + s → F < d' + s → cN p F d s = cN p F d' s
  | 0, d', s, h1, h2, h3 => by omega
  | d + 1, 0, s, h1, h2, h3 => by omega
  | d + 1, d' + 1, s, h1, h2, h3 => by
    have hp := Nat.two_pow_pos p.length
    rw [cN, cN]
    by_cases e : s = F
    · rw [if_pos e, if_pos e]
    · rw [if_neg e, if_neg e]
      refine foldl_same _ _ (fun a i hi => ?_)
      rw [List.mem_range] at hi
      by_cases hc : cT p s i = true
      · rw [if_pos hc, if_pos hc]
        have hb : s.testBit i = false := by unfold cT at hc; rw [Bool.and_eq_true, Bool.not_eq_true'] at hc; exact hc.1
        have := or_gt hi (by omega) hb
        rw [cN_stable p hF d d' _ (by omega) (by omega) (by omega)]
      · rw [if_neg hc, if_neg hc]
def cF (p : List Int) (F s i : Nat) : Int := (List.range i).foldl (fun a i => if cT p s i = true then wrap64 (a + cN p F (F + 1) (s ||| 2 ^ i)) else a) 0
theorem cF_succ (p : List Int) (F s i : Nat) : cF p F s (i + 1) = if cT p s i = true then wrap64 (cF p F s i + cN p F (F + 1) (s ||| 2 ^ i)) else cF p F s i := by
  unfold cF
  rw [List.range_succ, List.foldl_append]
  rfl
theorem cF_all (p : List Int) {F : Nat} (hF : F = 2 ^ p.length - 1) {s : Nat} (hs : s < F) : cF p F s p.length = cN p F (F + 1) s := by
  have hp := Nat.two_pow_pos p.length
  rw [cN, if_neg (by omega)]
  unfold cF
  refine foldl_same _ _ (fun a i hi => ?_)
  rw [List.mem_range] at hi
  by_cases hc : cT p s i = true
  · rw [if_pos hc, if_pos hc]
    have hb : s.testBit i = false := by unfold cT at hc; rw [Bool.and_eq_true, Bool.not_eq_true'] at hc; exact hc.1
    have := or_gt hi (by omega) hb
    rw [cN_stable p hF (F + 1) F _ (by omega) (by omega) (by omega)]
  · rw [if_neg hc, if_neg hc]
structure CI (p : List Int) (F : Nat) (X : List Int) (s : Nat) : Prop where
  len : X.length = F + 1
  up : ∀ t, s < t → t ≤ F → X.getD t 0 = cN p F (F + 1) t
  low : ∀ t, t < s → X.getD t 0 = 0
theorem getD_set_same {X : List Int} {s : Nat} {v : Int} (h : s < X.length) : (X.set s v).getD s 0 = v := by
  simp [List.getD_eq_getElem?_getD, h]
theorem getD_set_ne {X : List Int} {s t : Nat} {v : Int} (h : s ≠ t) : (X.set s v).getD t 0 = X.getD t 0 := by
  simp [List.getD_eq_getElem?_getD, h]
theorem CI.set {p : List Int} {F : Nat} {X : List Int} {s : Nat} (h : CI p F X s) (v : Int) : CI p F (X.set s v) s :=
  ⟨by rw [List.length_set]; exact h.len, fun t h1 h2 => by rw [getD_set_ne (by omega)]; exact h.up t h1 h2, fun t h1 => by rw [getD_set_ne (by omega)]; exact h.low t h1⟩
theorem liC_l1 (p : List Int) (hn : p.length ≤ 10) {F : Nat} (hF : F = 2 ^ p.length - 1) {s : Nat} (hs : s < F) {R : List Int} : ∀ (d i : Nat) (X : List Int), i + d = p.length → CI p F X s → X.getD s 0 = cF p F s i →
    (∀ X', CI p F X' s → X'.getD s 0 = cN p F (F + 1) s → Ev (fun k => spec_liCounts.l0 k X' (wrap64 ((s : Int) - 1)) p) R) → Ev (fun k => spec_liCounts.l1 k X (s : Int) p (p.length : Int) (i : Int) p) R
  | 0, i, X, e, hX, hv, hK => by
    refine Ev.step (fun _ => spec_liCounts.l1.eq_2 ..) (ev_neg (by omega) ?_)
    exact hK X hX (by rw [hv, show i = p.length by omega, cF_all p hF hs])
  | d + 1, i, X, e, hX, hv, hK => by
    have hp := Nat.two_pow_pos p.length
    have hF10 : F < 1024 := by have := pow_small hn; omega
    refine Ev.step (fun _ => spec_liCounts.l1.eq_2 ..) (ev_pos (by omega) (ev_pos (by omega) (ev_pos (by omega) (ev_call (poIn_eq (by omega)) ?_))))
    rw [wrap_succ (by omega)]
    have hstep := cF_succ p F s i
    by_cases hb : s.testBit i = true
    · refine ev_pos hb ?_
      have hc : ¬ (cT p s i = true) := by unfold cT; rw [hb]; simp
      rw [if_neg hc] at hstep
      exact liC_l1 p hn hF hs d (i + 1) X (by omega) hX (by rw [hstep]; exact hv) hK
    · refine ev_neg hb ?_
      have hb : s.testBit i = false := by simpa using hb
      have hor := or_gt (show i < p.length by omega) (show s < 2 ^ p.length by omega) hb
      have hi63 : (2 : Nat) ^ i < 2 ^ 63 := Nat.pow_lt_pow_right (by decide) (by omega)
      by_cases hz : Go.bits .andNot .i64 (rd p (i : Int)) (s : Int) = 0
      · have hc : cT p s i = true := by unfold cT; rw [hb, decide_eq_true hz]; rfl
        rw [if_pos hc] at hstep
        have eo : Go.bits .or .i64 (s : Int) (shl .i64 1 (i : Int)) = ((s ||| 2 ^ i : Nat) : Int) := by rw [shl_one (by omega), bits_or (by omega) hi63]
        have hl := hX.len
        refine ev_pos hz (ev_pos (by omega) (ev_pos (by omega) ?_))
        rw [eo]
        refine ev_pos (by omega) (ev_pos (by omega) ?_)
        rw [rd_getD, rd_getD, Int.toNat_natCast, hv, hX.up _ hor.1 (by omega)]
        exact liC_l1 p hn hF hs d (i + 1) _ (by omega) (hX.set _) (by rw [getD_set_same (by omega), hstep]) hK
      · have hc : ¬ (cT p s i = true) := by unfold cT; rw [decide_eq_false hz]; simp
        rw [if_neg hc] at hstep
        refine ev_neg hz ?_
        exact liC_l1 p hn hF hs d (i + 1) X (by omega) hX (by rw [hstep]; exact hv) hK
theorem liC_end (p : List Int) {F : Nat} {X : List Int} (hl : X.length = F + 1) (h : ∀ t, t ≤ F → X.getD t 0 = cN p F (F + 1) t) : X = cL p F (F + 1) 0 := by
  refine List.ext_getElem (by rw [hl, cL_len]) (fun i h1 h2 => ?_)
  have a := h i (by omega)
  have b := cL_get p F (F + 1) 0 i (by omega)
  rw [Nat.zero_add] at b
  rw [← b] at a
  simpa [List.getD_eq_getElem?_getD, h1, h2] using a
theorem liC_l0 (p : List Int) (hn : p.length ≤ 10) {F : Nat} (hF : F = 2 ^ p.length - 1) : ∀ (s : Nat) (X : List Int), s < F → CI p F X s → X.getD s 0 = 0 → Ev (fun k => spec_liCounts.l0 k X (s : Int) p) (cL p F (F + 1) 0)
  | 0, X, hs, hX, h0 => by
    refine Ev.step (fun _ => spec_liCounts.l0.eq_2 ..) (ev_pos (by omega) ?_)
    refine liC_l1 p hn hF hs p.length 0 X (by omega) hX (by rw [h0]; rfl) (fun X' hX' hv => ?_)
    refine Ev.step (fun _ => spec_liCounts.l0.eq_2 ..) (ev_neg (by show ¬ (wrap64 (-1) ≥ 0); rw [wrap_id (by omega) (by omega)]; omega) ?_)
    rw [liC_end p hX'.len (fun t ht => by
      rcases Nat.eq_zero_or_pos t with e | e
      · rw [e]; exact hv
      · exact hX'.up t e ht)]
    exact Ev.now _
  | s + 1, X, hs, hX, h0 => by
    have hF10 : F < 1024 := by have := pow_small hn; omega
    refine Ev.step (fun _ => spec_liCounts.l0.eq_2 ..) (ev_pos (by omega) ?_)
    refine liC_l1 p hn hF hs p.length 0 X (by omega) hX (by rw [h0]; rfl) (fun X' hX' hv => ?_)
    rw [show wrap64 (((s + 1 : Nat) : Int) - 1) = (s : Int) by rw [show ((s + 1 : Nat) : Int) - 1 = (s : Int) by omega]; exact wrap_id (by omega) (by omega)]
    refine liC_l0 p hn hF s X' (by omega) ⟨hX'.len, fun t h1 h2 => ?_, fun t h1 => hX'.low t (by omega)⟩ (hX'.low s (by omega))
    rcases Nat.eq_or_lt_of_le (show s + 1 ≤ t by omega) with e | e
    · rw [← e]; exact hv
    · exact hX'.up t e h2
theorem liCounts_ev (p : List Int) (h1 : 1 ≤ p.length) (hn : p.length ≤ 10) {F : Nat} (hF : F = 2 ^ p.length - 1) : Ev (fun k => spec_liCounts.f k p) (cL p F (F + 1) 0) := by
  have hp := pow_small hn
  have h2 : 2 ^ 1 ≤ 2 ^ p.length := Nat.pow_le_pow_right (by decide) h1
  have es := shl_one (i := p.length) (by omega)
  refine ev_pos (by rw [es]; omega) (ev_pos (by rw [es]; omega) (ev_call rfl ?_))
  rw [es]
  rw [show wrap64 (((2 ^ p.length : Nat) : Int) - 1) = ((F : Nat) : Int) by rw [wrap_id (by omega) (by omega)]; omega, show wrap64 (((2 ^ p.length : Nat) : Int) - 2) = ((F - 1 : Nat) : Int) by rw [wrap_id (by omega) (by omega)]; omega, Int.toNat_natCast, Int.toNat_natCast]
  refine ev_pos (by omega) (ev_pos (by rw [List.length_replicate]; omega) ?_)
  have hl : (List.replicate (2 ^ p.length) (0 : Int)).length = F + 1 := by rw [List.length_replicate]; omega
  refine liC_l0 p hn hF (F - 1) _ (by omega) ⟨by rw [List.length_set]; exact hl, fun t h3 h4 => ?_, fun t h3 => ?_⟩ ?_
  · have : t = F := by omega
    subst this
    rw [getD_set_same (by omega), cN, if_pos rfl]
  · rw [getD_set_ne (by omega)]; simp [List.getD_eq_getElem?_getD, List.getElem?_replicate]; split <;> rfl
  · rw [getD_set_ne (by omega)]; simp [List.getD_eq_getElem?_getD, List.getElem?_replicate]; split <;> rfl
def liA (p : List Int) : Option (List (List Int) × Bool) := if 1 ≤ p.length ∧ p.length ≤ 10 then (if rd (cL p (2 ^ p.length - 1) (2 ^ p.length - 1 + 1) 0) 0 > 500 then some ([], false) else spec_liAll.l0 1200 (cL p (2 ^ p.length - 1) (2 ^ p.length - 1 + 1) 0) ([] : List (List Int)) 0 p) else none
theorem liAll_ev {p : List Int} {r : List (List Int) × Bool} (h : liA p = some r) : Ev (fun k => spec_liAll.f k p) r := by
  unfold liA at h
  split at h
  · rename_i hc
    refine Ev.bind (liCounts_ev p hc.1 hc.2 rfl) (ev_pos (by rw [cL_len]; omega) ?_)
    split at h
    · rename_i h5; cases h; exact ev_pos h5 (Ev.now _)
    · rename_i h5; refine ev_neg h5 (Ev.of (fun k => spec_liAll.mono_l k _ _ _ _) h)
  · cases h
theorem same_cons {x y : Int} {a b : List Int} (e : x = y) : decide (x :: a = y :: b) = decide (a = b) := decide_eq_decide.mpr ⟨fun z => (List.cons.inj z).2, fun z => by rw [e, z]⟩
theorem same_l0 (a b : List Int) (hl : a.length ≤ 1000000) (hab : a.length = b.length) : ∀ (d i : Nat), i + d = a.length → Ev (fun k => spec_l1Same.l0 k a b (a.length : Int) (i : Int)) (decide (a.drop i = b.drop i))
  | 0, i, h => by
    refine Ev.step (fun _ => spec_l1Same.l0.eq_2 ..) (ev_neg (by omega) ?_)
    rw [List.drop_of_length_le (by omega), List.drop_of_length_le (by omega)]
    exact Ev.now _
  | d + 1, i, h => by
    refine Ev.step (fun _ => spec_l1Same.l0.eq_2 ..) (ev_pos (by omega) (ev_pos (by omega) (ev_pos (by omega) (ev_pos (by omega) ?_))))
    rw [wrap_succ (by omega), rd_get (by omega : i < a.length), rd_get (by omega : i < b.length)]
    rw [List.drop_eq_getElem_cons (by omega : i < a.length), List.drop_eq_getElem_cons (by omega : i < b.length)]
    refine ev_ite (fun e => ?_) (fun e => ?_)
    · rw [same_cons e]
      exact same_l0 a b hl hab d (i + 1) (by omega)
    · rw [decide_eq_false (show ¬ (a[i] :: a.drop (i + 1) = b[i] :: b.drop (i + 1)) by rw [List.cons.injEq]; exact fun z => e z.1)]
      exact Ev.now _
theorem same_ev (a b : List Int) (hl : a.length ≤ 1000000) : Ev (fun k => spec_l1Same.f k a b) (decide (a = b)) := by
  by_cases h : a.length = b.length
  · exact ev_pos (by omega) (same_l0 a b hl h a.length 0 (Nat.zero_add _))
  · rw [decide_eq_false (fun e => h (by rw [e]))]
    exact ev_neg (by omega) (Ev.now _)
theorem own_eq' (l : List Int) (h : l.length < 17592186044416) : spec_l1Own.f l = some l := by
  unfold spec_l1Own.f; rw [Option.bind_some, if_pos (by simpa using h)]; rfl
def iterL (f : List Int → List Int) : Nat → List Int → List Int
  | 0, s => s
  | n + 1, s => iterL f n (f s)
theorem iterL_add (f : List Int → List Int) : ∀ (m n : Nat) (s : List Int), iterL f (m + n) s = iterL f n (iterL f m s)
  | 0, n, s => by rw [Nat.zero_add]; rfl
  | m + 1, n, s => by rw [show m + 1 + n = (m + n) + 1 by omega]; exact iterL_add f m n (f s)
theorem iterL_mul (f : List Int → List Int) {n : Nat} {s : List Int} (h : iterL f n s = s) : ∀ q, iterL f (n * q) s = s
  | 0 => rfl
  | q + 1 => by rw [Nat.mul_succ, iterL_add, iterL_mul f h q, h]
theorem iterL_per (f : List Int → List Int) {n : Nat} {s : List Int} (hn : 1 ≤ n) (h : iterL f n s = s) (hm : ∀ i, i < n → 1 ≤ i → iterL f i s ≠ s) (d : Nat) : iterL f d s = s ↔ d % n = 0 := by
  have e : iterL f d s = iterL f (d % n) s := by
    have h1 : d = n * (d / n) + d % n := (Nat.div_add_mod d n).symm
    rw [h1, iterL_add, iterL_mul f h, ← h1]
  rw [e]
  constructor
  · intro h2
    apply Classical.byContradiction
    intro h3
    exact hm (d % n) (Nat.mod_lt _ (by omega)) (by omega) h2
  · intro h2; rw [h2]; rfl
def pfF (p s : List Int) : List Int := (spec_liUp.f 1200 p s (wrap64 ((s.length : Int) - 1))).getD []
def perLA (f : List Int → List Int) (s : List Int) : Nat → List Int → Nat
  | 0, _ => 0
  | k + 1, t => if t = s then 1 else perLA f s k (f t) + 1
def perL (f : List Int → List Int) (s : List Int) : Nat := perLA f s 12 (f s)
def perLOk (f : List Int → List Int) (s : List Int) : Bool := decide (1 ≤ perL f s) && iterL f (perL f s) s == s && (List.range (perL f s)).all fun i => i == 0 || iterL f i s != s
def pfB (a b : Int) : Bool := match spec_poRectangle.f 1200 a b with
  | none => false
  | some p => match spec_poGood.f 1200 p, liA p, impl_promotionLengths.f 1200 a b with
    | some true, some (all, true), some ls => (all.all fun s => (spec_liUp.f 1200 p s (wrap64 ((s.length : Int) - 1))).isSome && all.contains (pfF p s) && perLOk (pfF p) s && decide (s.length ≤ 10)) && decide (all.length ≤ 1000) && (List.range 61).all fun d => impl_fixed.f 1200 ls (d : Int) == some ((all.countP fun s => d % perL (pfF p) s == 0 : Nat) : Int)
    | _, _, _ => false
theorem pf1_1 : pfB 1 1 = true := by decide +kernel
theorem pf1_2 : pfB 1 2 = true := by decide +kernel
theorem pf1_3 : pfB 1 3 = true := by decide +kernel
theorem pf1_4 : pfB 1 4 = true := by decide +kernel
theorem pf1_5 : pfB 1 5 = true := by decide +kernel
theorem pf1_6 : pfB 1 6 = true := by decide +kernel
theorem pf1_7 : pfB 1 7 = true := by decide +kernel
theorem pf1_8 : pfB 1 8 = true := by decide +kernel
theorem pf1_9 : pfB 1 9 = true := by decide +kernel
theorem pf1_10 : pfB 1 10 = true := by decide +kernel
theorem pf2_1 : pfB 2 1 = true := by decide +kernel
theorem pf2_2 : pfB 2 2 = true := by decide +kernel
theorem pf2_3 : pfB 2 3 = true := by decide +kernel
theorem pf2_4 : pfB 2 4 = true := by decide +kernel
theorem pf2_5 : pfB 2 5 = true := by decide +kernel
theorem pf3_1 : pfB 3 1 = true := by decide +kernel
theorem pf3_2 : pfB 3 2 = true := by decide +kernel
theorem pf3_3 : pfB 3 3 = true := by decide +kernel
theorem pf4_1 : pfB 4 1 = true := by decide +kernel
theorem pf4_2 : pfB 4 2 = true := by decide +kernel
theorem pf5_1 : pfB 5 1 = true := by decide +kernel
theorem pf5_2 : pfB 5 2 = true := by decide +kernel
theorem pf6_1 : pfB 6 1 = true := by decide +kernel
theorem pf7_1 : pfB 7 1 = true := by decide +kernel
theorem pf8_1 : pfB 8 1 = true := by decide +kernel
theorem pf9_1 : pfB 9 1 = true := by decide +kernel
theorem pf10_1 : pfB 10 1 = true := by decide +kernel
theorem pf_of {a b : Int} (h : sidesB a b = true) : pfB a b = true := by
  unfold sidesB at h
  rw [Bool.and_eq_true, Bool.and_eq_true, inB_iff, inB_iff, decide_eq_true_eq] at h
  obtain ⟨⟨h1, h2⟩, h3⟩ := h
  obtain rfl | rfl | rfl | rfl | rfl | rfl | rfl | rfl | rfl | rfl : a = 1 ∨ a = 2 ∨ a = 3 ∨ a = 4 ∨ a = 5 ∨ a = 6 ∨ a = 7 ∨ a = 8 ∨ a = 9 ∨ a = 10 := by omega
  · obtain rfl | rfl | rfl | rfl | rfl | rfl | rfl | rfl | rfl | rfl : b = 1 ∨ b = 2 ∨ b = 3 ∨ b = 4 ∨ b = 5 ∨ b = 6 ∨ b = 7 ∨ b = 8 ∨ b = 9 ∨ b = 10 := by omega
    · exact pf1_1
    · exact pf1_2
    · exact pf1_3
    · exact pf1_4
    · exact pf1_5
    · exact pf1_6
    · exact pf1_7
    · exact pf1_8
    · exact pf1_9
    · exact pf1_10
  · obtain rfl | rfl | rfl | rfl | rfl : b = 1 ∨ b = 2 ∨ b = 3 ∨ b = 4 ∨ b = 5 := by omega
    · exact pf2_1
    · exact pf2_2
    · exact pf2_3
    · exact pf2_4
    · exact pf2_5
  · obtain rfl | rfl | rfl : b = 1 ∨ b = 2 ∨ b = 3 := by omega
    · exact pf3_1
    · exact pf3_2
    · exact pf3_3
  · obtain rfl | rfl : b = 1 ∨ b = 2 := by omega
    · exact pf4_1
    · exact pf4_2
  · obtain rfl | rfl : b = 1 ∨ b = 2 := by omega
    · exact pf5_1
    · exact pf5_2
  · obtain rfl : b = 1 := by omega
    exact pf6_1
  · obtain rfl : b = 1 := by omega
    exact pf7_1
  · obtain rfl : b = 1 := by omega
    exact pf8_1
  · obtain rfl : b = 1 := by omega
    exact pf9_1
  · obtain rfl : b = 1 := by omega
    exact pf10_1
theorem pf_mem {p : List Int} {all : List (List Int)} (h : ∀ s, s ∈ all → pfF p s ∈ all) : ∀ (n : Nat) (s : List Int), s ∈ all → iterL (pfF p) n s ∈ all
  | 0, s, hs => hs
  | n + 1, s, hs => pf_mem h n _ (h s hs)
theorem pf_prom {p : List Int} {all : List (List Int)} (h : ∀ s, s ∈ all → pfF p s ∈ all) (hE : ∀ s, s ∈ all → Ev (fun k => spec_liUp.f k p s (wrap64 ((s.length : Int) - 1))) (pfF p s)) (hL : ∀ s, s ∈ all → s.length ≤ 10) :
    ∀ (d : Nat) (s : List Int), d ≤ 60 → s ∈ all → Ev (fun k => spec_liPromote.l0 k s (d : Int) p) (iterL (pfF p) d s)
  | 0, s, hd, hs => by
    refine Ev.step (fun _ => spec_liPromote.l0.eq_2 ..) (ev_neg (by omega) ?_)
    refine Ev.step (fun _ => spec_liPromote.l1.eq_2 ..) (ev_neg (by omega) ?_)
    exact ev_call (own_eq' _ (by have := hL s hs; omega)) (Ev.now _)
  | d + 1, s, hd, hs => by
    refine Ev.step (fun _ => spec_liPromote.l0.eq_2 ..) (ev_pos (by omega) (Ev.bind (hE s hs) ?_))
    rw [show wrap64 (((d + 1 : Nat) : Int) - 1) = (d : Int) by rw [show ((d + 1 : Nat) : Int) - 1 = (d : Int) by omega]; exact wrap_id (by omega) (by omega)]
    exact pf_prom h hE hL d _ (by omega) (h s hs)
theorem pf_l0 {p : List Int} {all : List (List Int)} (h : ∀ s, s ∈ all → pfF p s ∈ all) (hE : ∀ s, s ∈ all → Ev (fun k => spec_liUp.f k p s (wrap64 ((s.length : Int) - 1))) (pfF p s)) (hL : ∀ s, s ∈ all → s.length ≤ 10) (d : Nat) (hd : d ≤ 60) (hl : all.length ≤ 1000) : ∀ (n i cnt : Nat), i + n = all.length → cnt ≤ i →
    Ev (fun k => spec_CountReturned.l0 k (d : Int) (cnt : Int) all (all.length : Int) (i : Int) p) (((cnt + (all.drop i).countP (fun s => decide (iterL (pfF p) d s = s)) : Nat) : Int), true)
  | 0, i, cnt, e, hc => by
    refine Ev.step (fun _ => spec_CountReturned.l0.eq_2 ..) (ev_neg (by omega) ?_)
    rw [List.drop_of_length_le (by omega)]
    exact Ev.now _
  | n + 1, i, cnt, e, hc => by
    have hi : i < all.length := by omega
    have hr : rd_L1 all (i : Int) = all[i] := by simp [rd_L1, List.getD_eq_getElem?_getD, hi]
    have hm := List.getElem_mem hi
    refine Ev.step (fun _ => spec_CountReturned.l0.eq_2 ..) (ev_pos (by omega) (ev_pos (by omega) (ev_pos (by omega) ?_)))
    rw [hr, List.drop_eq_getElem_cons hi, List.countP_cons]
    refine Ev.bind (pf_prom h hE hL d _ hd hm) (Ev.bind (same_ev _ _ (by have := hL _ (pf_mem h d _ hm); omega)) ?_)
    refine ev_ite (fun q => ?_) (fun q => ?_)
    · rw [wrap_succ (by omega), wrap_succ (by omega), if_pos q]
      have := pf_l0 h hE hL d hd hl n (i + 1) (cnt + 1) (by omega) (by omega)
      rw [show cnt + 1 + (all.drop (i + 1)).countP (fun s => decide (iterL (pfF p) d s = s)) = cnt + ((all.drop (i + 1)).countP (fun s => decide (iterL (pfF p) d s = s)) + 1) by omega] at this
      exact this
    · rw [wrap_succ (by omega), if_neg q]
      exact pf_l0 h hE hL d hd hl n (i + 1) cnt (by omega) (by omega)
theorem svTurn_eq' (d : Int) : spec_svTurn.f d = some (inB d 0 60) := by unfold spec_svTurn.f; rw [l1In_eq]; rfl
theorem agree_FnExactPromotionFixed (a b d : Int) : ∃ r : Int × Bool, Ev (fun k => spec_PromotionFixed.f k a b d) r ∧ Ev (fun k => impl_PromotionFixed.f k a b d) r := by
  by_cases hs : sidesB a b = true
  · by_cases hd : inB d 0 60 = true
    · have bd := inB_iff.mp hd
      obtain ⟨d, rfl⟩ : ∃ m : Nat, d = (m : Int) := ⟨d.toNat, by omega⟩
      have hg := pf_of hs
      unfold pfB at hg
      split at hg
      · cases hg
      · rename_i p hp
        split at hg
        · rename_i all ls hG hi hL
          rw [Bool.and_eq_true, Bool.and_eq_true, decide_eq_true_eq, List.all_eq_true, List.all_eq_true] at hg
          obtain ⟨⟨h1, h2⟩, h3⟩ := hg
          have h4 : ∀ s, s ∈ all → (∃ v, spec_liUp.f 1200 p s (wrap64 ((s.length : Int) - 1)) = some v) ∧ pfF p s ∈ all ∧ perLOk (pfF p) s = true ∧ s.length ≤ 10 := by
            intro s hm
            have := h1 s hm
            rw [Bool.and_eq_true, Bool.and_eq_true, Bool.and_eq_true, List.contains_iff_mem, Option.isSome_iff_exists, decide_eq_true_eq] at this
            exact ⟨this.1.1.1, this.1.1.2, this.1.2, this.2⟩
          have hE : ∀ s, s ∈ all → Ev (fun k => spec_liUp.f k p s (wrap64 ((s.length : Int) - 1))) (pfF p s) := by
            intro s hm
            obtain ⟨v, hv⟩ := (h4 s hm).1
            have e : pfF p s = v := by unfold pfF; rw [hv]; rfl
            rw [e]
            exact Ev.of (spec_liUp.mono _ _ _) hv
          have hper : ∀ s, s ∈ all → decide (iterL (pfF p) d s = s) = (d % perL (pfF p) s == 0) := by
            intro s hm
            have h5 := (h4 s hm).2.2.1
            unfold perLOk at h5
            rw [Bool.and_eq_true, Bool.and_eq_true, decide_eq_true_eq, beq_iff_eq, List.all_eq_true] at h5
            rw [Bool.eq_iff_iff, decide_eq_true_eq, beq_iff_eq]
            refine iterL_per _ h5.1.1 h5.1.2 (fun i hi h6 => ?_) d
            have := h5.2 i (List.mem_range.mpr hi)
            rw [Bool.or_eq_true, beq_iff_eq, bne_iff_ne] at this
            rcases this with h7 | h7
            · omega
            · exact h7
          have hc := h3 d (List.mem_range.mpr (by omega))
          rw [beq_iff_eq] at hc
          have hl0 := pf_l0 (fun s hm => (h4 s hm).2.1) hE (fun s hm => (h4 s hm).2.2.2) d (by omega) h2 all.length 0 0 (by omega) (Nat.le_refl _)
          rw [List.drop_zero, Nat.zero_add, List.countP_congr (fun s hm => by rw [hper s hm])] at hl0
          refine ⟨(((all.countP fun s => d % perL (pfF p) s == 0 : Nat) : Int), true), ev_call (shSides_eq a b) (ev_pos hs (ev_call (svTurn_eq' _) ?_)), ev_call (areSides_eq a b) (ev_pos hs (ev_call (within_eq _ _ _) ?_))⟩
          · rw [hd]
            have hcr : Ev (fun k => spec_CountReturned.f k p (d : Int)) (((all.countP fun s => d % perL (pfF p) s == 0 : Nat) : Int), true) := by
              refine Ev.bind (Ev.of (spec_poGood.mono _) hG) (ev_pos rfl (ev_call (l1In_eq _ _ _) ?_))
              rw [show inB ((d : Nat) : Int) 0 100 = true from inB_iff.mpr ⟨by omega, by omega⟩]
              exact Ev.step (fun _ => spec_CountReturned.j0.eq_2 ..) (ev_neg (by simp) (Ev.bind (liAll_ev hi) (ev_pos rfl hl0)))
            exact Ev.step (fun _ => spec_PromotionFixed.j0.eq_2 ..) (ev_neg (by simp) (Ev.bind (Ev.of (spec_poRectangle.mono _ _) hp) (Ev.bind hcr (Ev.now _))))
          · rw [hd]
            exact Ev.step (fun _ => impl_PromotionFixed.j0.eq_2 ..) (ev_neg (by simp) (Ev.bind (Ev.of (impl_promotionLengths.mono _ _) hL) (Ev.bind (Ev.of (impl_fixed.mono _ _) hc) (Ev.now _))))
        · cases hg
    · refine ⟨(0, false), ev_call (shSides_eq a b) (ev_pos hs (ev_call (svTurn_eq' _) ?_)), ev_call (areSides_eq a b) (ev_pos hs (ev_call (within_eq _ _ _) ?_))⟩
      · rw [Bool.eq_false_iff.mpr hd]; exact Ev.step (fun _ => spec_PromotionFixed.j0.eq_2 ..) (ev_pos rfl (Ev.now _))
      · rw [Bool.eq_false_iff.mpr hd]; exact Ev.step (fun _ => impl_PromotionFixed.j0.eq_2 ..) (ev_pos rfl (Ev.now _))
  · exact ⟨(0, false), ev_call (shSides_eq a b) (ev_neg hs (Ev.step (fun _ => spec_PromotionFixed.j0.eq_2 ..) (ev_pos rfl (Ev.now _)))), ev_call (areSides_eq a b) (ev_neg hs (Ev.step (fun _ => impl_PromotionFixed.j0.eq_2 ..) (ev_pos rfl (Ev.now _))))⟩
end Go.Proofs.Ytldbabadbggleaa.M
end
section
namespace Go.Proofs.Ytldbabadbggleaa.M
open Go.RowKit Go.Proofs.YtldbabadbggleaaW.PrintWords Go.Proofs.YtldbabadbggleaaW.PrintLast Go.Proofs.YtldbabadbggleaaW.PrintMore Go.Proofs.Ytldbabadbggleaa.L
end Go.Proofs.Ytldbabadbggleaa.M
end
section
namespace Go.Proofs.Ytldbabadbggleaa.Pure
open Go.RowKit Go.Proofs.YtldbabadbggleaaW.PrintWords Go.Proofs.YtldbabadbggleaaW.PrintLast Go.Proofs.YtldbabadbggleaaW.PrintMore Go.Proofs.Ytldbabadbggleaa.L Go.Proofs.Ytldbabadbggleaa.M
theorem FnExactPromotionFixed : laws_FnExactPromotionFixed.Pure2 := by
  intro a0 a1 a2 w0 w1 w2
  refine Ev.rounds ?_
  unfold laws_FnExactPromotionFixed.f
  obtain ⟨r, hs, hi⟩ := agree_FnExactPromotionFixed a0 a1 a2
  repeat' first
    | with_reducible exact Ev.now true
    | with_reducible refine Ev.bind hs ?_
    | with_reducible refine Ev.bind hi ?_
    | with_reducible refine ev_pos rfl ?_
    | (with_reducible refine ev_neg ?h ?_; case h => first | (simp; done) | omega | (simp only; omega) | (simp; omega))
end Go.Proofs.Ytldbabadbggleaa.Pure
end
section
namespace Go.Proofs.Ytldbabadbggleaa.R
open Go.ChangeShapes Go.WideShapes Go.ChangeAt Go.RowKit
open Go.ChangeMaps (open_string shut_string)
set_option linter.unusedVariables false
def IsRow (k : IntKind) (w : World) (a : Option Addr) (len cap : Nat) (zs : List Int) : Prop :=
  (a = none ∧ len = 0 ∧ cap = 0 ∧ zs = []) ∨
  ∃ x, a = some x ∧ len ≤ cap ∧ cap ≤ maxLen ∧ zs.length = cap ∧ (∀ i, i < zs.length → w.cell? (x.add i) = some (.int k (zs.getD i 0))) ∧ ∀ n ∈ zs, (Lit.int k n).wf = true
variable {H : Type} {enc : TypeId × Value → H} {P : Program} {W : World} {base : Nat} {ps : List MemPlace}
theorem row_of {t e : TypeId} {k : IntKind} {fuel : Nat} {c : Value} {y : DataW H × List MemPlace} (hu : P.underlying t = some (.slice e)) (he : P.underlying e = some (.int k)) (hc : P.cellsOf e = 1)
    (hf : DataW.trod enc P W 0 (fun _ => true) true fuel t [c] = some y) : ∃ a len cap zs, c = .slice a len cap ∧ IsRow k W a len cap zs := by
  rcases open_ints hu he hc hf with ⟨hcs, _⟩ | ⟨x, l, c', zs, hcs, _, hl, hm, hz, _, hcell, hwz⟩
  · simp only [List.cons.injEq, and_true] at hcs
    subst hcs
    exact ⟨_, _, _, [], rfl, .inl ⟨rfl, rfl, rfl, rfl⟩⟩
  · simp only [List.cons.injEq, and_true] at hcs
    subst hcs
    exact ⟨_, _, _, zs, rfl, .inr ⟨_, rfl, hl, hm, by simpa using hz, hcell, hwz⟩⟩
theorem array1 {α : Type} {cs : Array α} (h : cs.size = 1) : ∃ c0, cs = #[c0] := by
  obtain ⟨l⟩ := cs
  match l, h with
  | [c0], _ => exact ⟨c0, rfl⟩
theorem open_poset {r : Reach} {t e : TypeId} {f : Field} {v : Value} {d : DataW H} (hs : P.underlying t = some (.struct #[f])) (ho : f.offset = 0) (hC : P.cellsOf t = 1) (hfc : P.cellsOf f.type = 1) (hu : P.underlying f.type = some (.slice e)) (he : P.underlying e = some (.int .i64)) (hc : P.cellsOf e = 1)
    (hv : Value.okWide P W r base t v) (h : DataW.Trod enc P W 0 (fun _ => true) true t v d ps) : ∃ a len cap zs, v = .agg #[.slice a len cap] ∧ IsRow .i64 W a len cap zs := by
  obtain ⟨cs, rfl, hsz⟩ := okWide_struct hs hv
  obtain ⟨c0, rfl⟩ := array1 (hsz.trans hC)
  obtain ⟨fuel, hf⟩ := h
  obtain ⟨y0, n, _, _, h0⟩ := trod_struct1 hs hf
  rw [ho, hfc] at h0
  obtain ⟨a, len, cap, zs, rfl, hz⟩ := row_of hu he hc (by simpa [Value.cells] using h0)
  exact ⟨a, len, cap, zs, rfl, hz⟩
theorem open_desk {r : Reach} {t e : TypeId} {f f1 g : Field} {v : Value} {d : DataW H} (hs : P.underlying t = some (.struct #[f, f1])) (ho : f.offset = 0) (ho1 : f1.offset = 1) (hC : P.cellsOf t = 2) (hfc : P.cellsOf f.type = 1) (hfc1 : P.cellsOf f1.type = 1)
    (hs2 : P.underlying f.type = some (.struct #[g])) (hgo : g.offset = 0) (hgc : P.cellsOf g.type = 1) (hu : P.underlying g.type = some (.slice e)) (he : P.underlying e = some (.int .i64)) (hc : P.cellsOf e = 1) (hi : P.underlying f1.type = some (.int .i64))
    (hv : Value.okWide P W r base t v) (h : DataW.Trod enc P W 0 (fun _ => true) true t v d ps) : ∃ a len cap zs x, v = .agg #[.slice a len cap, .int .i64 x] ∧ IsRow .i64 W a len cap zs ∧ (Lit.int .i64 x).wf = true := by
  obtain ⟨cs, rfl, hsz⟩ := okWide_struct hs hv
  obtain ⟨c0, c1, rfl⟩ := Joins.array2 (hsz.trans hC)
  obtain ⟨fuel, hf⟩ := h
  obtain ⟨y0, y1, n, _, _, h0, h1⟩ := trod_struct2 hs hf
  rw [ho, hfc] at h0
  rw [ho1, hfc1] at h1
  obtain ⟨z0, m, _, _, h00⟩ := trod_struct1 hs2 h0
  rw [hgo, hgc] at h00
  obtain ⟨a, len, cap, zs, rfl, hz⟩ := row_of hu he hc (by simpa [Value.cells] using h00)
  obtain ⟨x, e0, e1, wx⟩ := DataW.trod_int hi h1
  simp [Value.cells] at e0
  subst e0
  exact ⟨a, len, cap, zs, x, rfl, hz, wx⟩
end Go.Proofs.Ytldbabadbggleaa.R
end
