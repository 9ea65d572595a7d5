/- Laws about the given program: the law FnExactPromotionStabilizers answers true for every input that its row lets in; no condition is added to the given statement. Contracts of the Go functions that it reaches, and the plain proof over lists. -/
import Derived.Below
import Derived.ChangeOld
import Derived.Laws.BitsLemmas
import Derived.Lib.SmallJoins
import Derived.OpenShut
import Derived.ProofKit
import Derived.ShutString
import Derived.SizedLaws
import Derived.WalkKit
import Derived.Test.YtldbabadbggleaaWFnExactPromotionStabilizers0
import Derived.Test.YtldbabadbggleaaKFnExactPromotionStabilizers0
import Derived.Test.YtldbabadbggleaaKFnExactPromotionStabilizers1
import Derived.Test.YtldbabadbggleaaKFnExactPromotionStabilizers2
import Derived.Test.YtldbabadbggleaaKFnExactPromotionStabilizers3
import Derived.Test.YtldbabadbggleaaKFnExactPromotionStabilizers4
import Derived.Test.YtldbabadbggleaaKFnExactPromotionStabilizers5
import Derived.Test.YtldbabadbggleaaKFnExactPromotionStabilizers6
section
namespace Go.Proofs.Ytldbabadbggleaa.L
open Go.RowKit Go.Proofs.YtldbabadbggleaaW.PrintWords Go.Proofs.YtldbabadbggleaaW.PrintLast Go.Proofs.YtldbabadbggleaaW.PrintMore
attribute [local go_sem] max2_int min2_int max_two min_two max_three min_three max_four min_four
set_option linter.unusedVariables false
set_option linter.unusedSimpArgs false
def impl_stabilizers.l0 : Nat → Int → List Int → List Int → Int → Int → Option (List Int)
  | 0, _, _, _, _, _ => none
  | k + 1, x1, x5, x9, x10, x11 => if x11 < x10 then (if 0 ≤ x11 then (if x11 < (x9.length : Int) then (if (rd x9 x11) = 0 then (none) else (if x5.length < 17592186044416 then (impl_stabilizers.l0 k x1 (x5 ++ [wrap64 (Int.tdiv x1 (rd x9 x11))]) x9 x10 (wrap64 (x11 + 1))) else (none))) else (none)) else (none)) else ((impl_sorted.f x5).bind fun t432 => (some t432))
def impl_stabilizers.f (k : Nat) (l0 : List Int) (a1 : Int) : Option (List Int) := impl_stabilizers.l0 k a1 (([] : List Int)) l0 (l0.length : Int) 0
theorem impl_stabilizers.mono_l : ∀ k, (∀ y0 y1 y2 y3 y4, LeO (impl_stabilizers.l0 k y0 y1 y2 y3 y4) (impl_stabilizers.l0 (k + 1) y0 y1 y2 y3 y4))
  | 0 => fun _ _ _ _ _ r h => by simp [impl_stabilizers.l0] at h
  | k + 1 => by
    have ih0 := impl_stabilizers.mono_l k
    · intro y0 y1 y2 y3 y4
      unfold impl_stabilizers.l0
      repeat' first
      | (with_reducible exact ih0 _ _ _ _ _)
      | (with_reducible exact LeO.refl _)
      | (with_reducible exact LeO.none _)
      | (with_reducible refine LeO.ite ?_ ?_)
      | (with_reducible refine LeO.bind ?_ (fun _ => ?_))
      | exact ih0 _ _ _ _ _
      | exact LeO.none _
      | refine LeO.ite ?_ ?_
      | refine LeO.bind ?_ (fun _ => ?_)
theorem impl_stabilizers.mono : ∀ a0 a1 k, LeO (impl_stabilizers.f k a0 a1) (impl_stabilizers.f (k + 1) a0 a1) := by
  intro a0 a1 k
  have ih0 := impl_stabilizers.mono_l k
  unfold impl_stabilizers.f
  repeat' first
      | (with_reducible exact ih0 _ _ _ _ _)
      | (with_reducible exact LeO.refl _)
      | (with_reducible exact LeO.none _)
      | (with_reducible refine LeO.ite ?_ ?_)
      | (with_reducible refine LeO.bind ?_ (fun _ => ?_))
      | exact ih0 _ _ _ _ _
      | exact LeO.none _
      | refine LeO.ite ?_ ?_
      | refine LeO.bind ?_ (fun _ => ?_)
set_option maxHeartbeats 8000000 in
set_option maxRecDepth 100000 in
theorem impl_stabilizers.calls (k : Nat) (A0 : Option Addr) (c0 : Nat) (l0 : List Int) (a1 : Int) (r : List Int) (w : World) (hr0 : Kd.C (Kd.int .i64) w A0 l0.length l0) (hc0 : l0.length ≤ c0) (h : impl_stabilizers.f k l0 a1 = some r) :
    Calls Try.prog 50 #[.slice A0 l0.length c0, .int .i64 a1] w fun e w' => ∃ v0_ : Value, e = .returned (v0_) ∧ Kd.R (Kd.int .i64) 3 w' w.heap.size (fun _ => True) v0_ r ∧ Below w.heap.size w w' := by
  have HR0 := Aside0.mk hr0
  have HC0 := Aside0.mk hc0
  clear hr0 hc0
  have HB := Aside0.mk (Below.refl w.heap.size w)
  have H : (impl_stabilizers.l0 k a1 (([] : List Int)) l0 (l0.length : Int) 0) = some r := h
  clear h
  obtain ⟨y425, hy425⟩ : ∃ y_ : List Int, y_ = (([] : List Int)) := ⟨_, rfl⟩
  replace H : (impl_stabilizers.l0 k a1 y425 l0 (l0.length : Int) 0) = some r := by first | (rw [hy425]; with_reducible exact H) | (have H2_ := (Option.bind_some _ _).symm.trans H; rw [hy425]; with_reducible exact H2_) | (have H2_ := (Option.bind_some _ _).symm.trans H; with_reducible exact H2_) | with_reducible exact H | (rw [hy425]; exact H) | exact H
  have Ny425 := Aside0.mk hy425
  clear hy425
  have H' := Aside0.mk H
  clear H
  go_enter Try.func50, Try.ntmps50
  go_wp2_with (first | ((with_reducible refine gate_dst (N := 8) rfl ?_); refine Kd.R_lit (Kd.int .i64) _ 3 ?hg (N := 8) ?hd (xs := ([] : List Int)) (inner := []) (ok := fun _ => True) (okp := fun _ => True) ?hr ?hp (fun _ hk => hk) trivial (Below.refl _ _) (Nat.le_refl _) (by simp) ?_; (case hd => rfl); (case hg => rfl); (case hr => first | (go_simp; done) | (go_simp; rfl)); (case hp => exact (Reps.none _ _)); intro v426 w3 ho4 hb hg_ hnew_; clear hg_ hnew_; (first | rw [← Ny425.out] at ho4 | (simp only [Int.reduceToNat] at ho4; rw [← Ny425.out] at ho4)); have n0_ := Aside0.mk (Kd.R_lower ho4 (below_size (by repeat (first | (with_reducible first | exact HB.out | apply below_alloc | apply pw_below_drewN | apply below_drew1) | exact HB.out)))); have n1_ := Aside0.mk (below_step (by repeat (first | (with_reducible first | exact HB.out | apply below_alloc | apply pw_below_drewN | apply below_drew1) | exact HB.out)) hb); clear HB; have HO427 := n0_; have HB := n1_; clear n0_ n1_; clear hb ho4))
  go_loopg [5, 11] k (fun kq v5 v11 w' => ∃ (x5_1 : List Int) (x11_1 : Int), v11 = .int .i64 x11_1 ∧ Aside0 (impl_stabilizers.l0 kq a1 x5_1 l0 (l0.length : Int) x11_1 = some r) ∧ Aside0 (kq ≤ k) ∧ Aside0 (Kd.R (Kd.int .i64) 3 w' w.heap.size (fun _ => True) v5 x5_1) ∧ Aside0 (Below w.heap.size w w'))
  case atStart => exact ⟨(y425), (0), (by first | rfl | (simp; done) | (simp [*]; done)), H', ⟨Nat.le_refl _⟩, ⟨by (with_reducible repeat (first | apply Kd.R_alloc | apply Kd.R_drewN | apply Kd.R_drew)); exact HO427.out⟩, ⟨by repeat (first | (with_reducible first | exact HB.out | apply below_alloc | apply pw_below_drewN | apply below_drew1) | exact HB.out)⟩⟩
  case round =>
    clear H'
    try clear p2
    obtain ⟨x5_1, x11_1, rfl, HA, HK1, HO_5, HB⟩ := hrel
    cases gk with
    | zero => exact absurd HA.out (by simp [impl_stabilizers.l0])
    | succ k1 =>
      have H := HA.out
      clear HA
      simp only [impl_stabilizers.l0] at H
      by_cases c5 : x11_1 < (l0.length : Int)
      · rw [if_pos c5] at H
        have c5b0 : decide (x11_1 < (l0.length : Int)) = true := decide_eq_true c5
        clear c5
        by_cases c6 : 0 ≤ x11_1
        · rw [if_pos c6] at H
          have c6b0 : decide (0 ≤ x11_1) = true := decide_eq_true c6
          clear c6
          by_cases c7 : x11_1 < (l0.length : Int)
          · rw [if_pos c7] at H
            have c7b0 : decide (x11_1 < (l0.length : Int)) = true := decide_eq_true c7
            clear c7
            by_cases c8 : (rd l0 x11_1) = 0
            · rw [if_pos c8] at H
              exact absurd H (by simp)
            · rw [if_neg c8] at H
              have c8b0 : ((rd l0 x11_1) == 0) = false := beq_eq_false_iff_ne.mpr c8
              have c8b1 : ((rd l0 x11_1) != 0) = true := bne_iff_ne.mpr c8
              by_cases c9 : x5_1.length < 17592186044416
              · rw [if_pos c9] at H
                have LMc9 := Aside0.mk c9
                clear c9
                obtain ⟨y429, hy429⟩ : ∃ y_ : List Int, y_ = (x5_1 ++ [wrap64 (Int.tdiv a1 (rd l0 x11_1))]) := ⟨_, rfl⟩
                replace H : (impl_stabilizers.l0 k1 a1 y429 l0 (l0.length : Int) (wrap64 (x11_1 + 1))) = some r := by first | (rw [hy429]; with_reducible exact H) | (have H2_ := (Option.bind_some _ _).symm.trans H; rw [hy429]; with_reducible exact H2_) | (have H2_ := (Option.bind_some _ _).symm.trans H; with_reducible exact H2_) | with_reducible exact H | (rw [hy429]; exact H) | exact H
                have Ny429 := Aside0.mk hy429
                clear hy429
                have H' := Aside0.mk H
                clear H
                have p428 : 0 ≤ (x11_1 : Int) := of_decide_eq_true (by first | (with_reducible assumption) | assumption)
                have q428 : x11_1 < (l0.length : Int) := of_decide_eq_true (by first | (with_reducible assumption) | assumption)
                obtain ⟨ad428, e428, hx428_0⟩ := Kd.at_int HR0.out x11_1 p428 q428
                cases e428
                replace hx428_0 := (HB.out.cell (World.block_lt_of_cell? w _ hx428_0)).trans hx428_0
                replace p428 := eq_true p428
                replace q428 := eq_true q428
                go_wp2_with (first | ((with_reducible refine gate_builtin (b := .append) (xs := #[.tmp 15, .tmp 19]) rfl ?_); at_builtin; refine Kd.R_append (Kd.int .i64) (w0 := w) w.heap.size rfl (.tmp 15) (.tmp 19) 22 3 (.int .i64 0) 8 rfl Try.underlying22 info3 rfl (by decide) (by omega) u5 x5_1 (wrap64 (Int.tdiv a1 (rd l0 x11_1))) [.int .i64 (wrap64 (Int.tdiv a1 (rd l0 x11_1)))] (fun _ => True) (fun _ => False) rfl rfl ?aP (fun _ hk => hk.elim) ?aF ?aO ?aB ?aS ?aL ?_; (case aP => exact rfl); (case aB => exact (by repeat (first | (with_reducible first | exact HB.out | apply below_alloc | apply pw_below_drewN | apply below_drew1) | exact HB.out))); (case aF => exact (fun _ _ => trivial)); (case aO => exact (by (with_reducible repeat (first | apply Kd.R_alloc | apply Kd.R_drewN | apply Kd.R_drew)); exact HO_5.out)); (case aS => exact (below_size (by repeat (first | (with_reducible first | exact HB.out | apply below_alloc | apply pw_below_drewN | apply below_drew1) | exact HB.out)))); (case aL => have := LMc9.out; omega); intro v430 w10 ho hb hg hat; rw [← Ny429.out] at ho; have n0_ := Aside0.mk (hb); have n1_ := Aside0.mk (ho); clear HB; clear HO_5; have HB := n0_; have HO431 := n1_; clear n0_ n1_; clear ho hb hg hat))
                go_roundg k1
                case measure => have := HK1.out; omega
                case rel => exact ⟨(y429), (wrap64 (x11_1 + 1)), (by first | rfl | (simp; done) | (simp [*]; done)), H', ⟨by have := HK1.out; omega⟩, ⟨by (with_reducible repeat (first | apply Kd.R_alloc | apply Kd.R_drewN | apply Kd.R_drew)); exact HO431.out⟩, ⟨by repeat (first | (with_reducible first | exact HB.out | apply below_alloc | apply pw_below_drewN | apply below_drew1) | exact HB.out)⟩⟩
              · rw [if_neg c9] at H
                exact absurd H (by simp)
          · rw [if_neg c7] at H
            exact absurd H (by simp)
        · rw [if_neg c6] at H
          exact absurd H (by simp)
      · rw [if_neg c5] at H
        have c5b0 : decide (x11_1 < (l0.length : Int)) = false := decide_eq_false c5
        clear c5
        replace H := Option.bind_eq_some_iff.mp H
        obtain ⟨t432, A110, H⟩ := H
        replace H : (some t432) = some r := H
        have A11 := Aside0.mk A110
        clear A110
        obtain rfl := Option.some.inj H
        obtain ⟨Ao12, co12, eo12⟩ := Kd.R_slice HO_5.out
        subst eo12
        go_wp2_with (first | ((with_reducible refine gate_callee (f := 69) rfl ?_); refine goesL_ (some 23) rfl rfl Try.func69 (by kernel_rfl) rfl #[.slice Ao12 x5_1.length co12] rfl (by (try simp only [List.map_toArray, List.map_cons, List.map_nil]); first | done | rfl | (simp only [List.length_drop, List.length_take]; rfl)) ?_; (with_reducible refine (impl_sorted.calls _ _ x5_1 t432 _ ?side1 ?side2 A11.out).mono ?_); (case side1 => repeat (first | exact (Kd.R_reads' HO_5.out).2.2 | (with_reducible refine Kd.C_alloc ?_ _) | (with_reducible refine Kd.C_drewN ?_ _) | (with_reducible refine Kd.C_drew ?_))); (case side2 => exact (Kd.R_reads' HO_5.out).2.1); rintro e w13 ⟨v433, rfl, ho0, hb⟩; refine ⟨_, rfl, ?_⟩; have n0_ := Aside0.mk (Kd.R_elder' (by (with_reducible repeat (first | apply Kd.R_alloc | apply Kd.R_drewN | apply Kd.R_drew)); exact HO_5.out) (Kd.R_base ho0) hb); have n1_ := Aside0.mk (Kd.R_lower (Kd.R_new' ho0 (Kd.R_lt (by (with_reducible repeat (first | apply Kd.R_alloc | apply Kd.R_drewN | apply Kd.R_drew)); exact HO_5.out))) (below_size (by repeat (first | (with_reducible first | exact HB.out | apply below_alloc | apply pw_below_drewN | apply below_drew1) | exact HB.out)))); have n2_ := Aside0.mk (below_step (by repeat (first | (with_reducible first | exact HB.out | apply below_alloc | apply pw_below_drewN | apply below_drew1) | exact HB.out)) hb); clear HO_5; clear HB; have HO_5 := n0_; have HO434 := n1_; have HB := n2_; clear n0_ n1_ n2_; (try clear hb); (try clear hb2); (try clear hk); (try clear hi); (try clear ho0)))
        go_ret
        exact ⟨_, by first | rfl | (simp [errW_none, errW_some] <;> rfl) | (simp [*, errW_none, errW_some] <;> rfl), by (with_reducible repeat (first | apply Kd.R_alloc | apply Kd.R_drewN | apply Kd.R_drew)); exact Kd.R_mono HO434.out (fun _ hk => trivial), by repeat (first | (with_reducible first | exact HB.out | apply below_alloc | apply pw_below_drewN | apply below_drew1) | exact HB.out)⟩
def impl_PromotionStabilizers.f (k : Nat) (a0 : Int) (a1 : Int) : Option (List Int × Bool) := (impl_areSides.f a0 a1 10).bind fun t435 => (if t435 = true then ((impl_promotionLengths.f k a0 a1).bind fun t436 => ((impl_stabilizers.f k t436 (wrap64 (a0 * a1))).bind fun t439 => (some (t439, true)))) else (some (([] : List Int), false)))
theorem impl_PromotionStabilizers.mono : ∀ a0 a1 k, LeO (impl_PromotionStabilizers.f k a0 a1) (impl_PromotionStabilizers.f (k + 1) a0 a1) := by
  intro a0 a1 k
  unfold impl_PromotionStabilizers.f
  repeat' first
      | (with_reducible exact impl_promotionLengths.mono _ _ _)
      | (with_reducible exact impl_stabilizers.mono _ _ _)
      | (with_reducible exact LeO.refl _)
      | (with_reducible exact LeO.none _)
      | (with_reducible refine LeO.ite ?_ ?_)
      | (with_reducible refine LeO.bind ?_ (fun _ => ?_))
      | exact impl_promotionLengths.mono _ _ _
      | exact impl_stabilizers.mono _ _ _
      | exact LeO.none _
      | refine LeO.ite ?_ ?_
      | refine LeO.bind ?_ (fun _ => ?_)
set_option maxHeartbeats 8000000 in
set_option maxRecDepth 100000 in
theorem impl_PromotionStabilizers.calls (k : Nat) (a0 : Int) (a1 : Int) (r1 : List Int) (r2 : Bool) (w : World) (h : impl_PromotionStabilizers.f k a0 a1 = some (r1, r2)) :
    Calls Try.prog 24 #[.int .i64 a0, .int .i64 a1] w fun e w' => ∃ v0_ : Value, e = .returned (.tuple #[v0_, .bool r2]) ∧ Kd.R (Kd.int .i64) 3 w' w.heap.size (fun _ => True) v0_ r1 ∧ Below w.heap.size w w' := by
  have HB := Aside0.mk (Below.refl w.heap.size w)
  have H : ((impl_areSides.f a0 a1 10).bind fun t435 => (if t435 = true then ((impl_promotionLengths.f k a0 a1).bind fun t436 => ((impl_stabilizers.f k t436 (wrap64 (a0 * a1))).bind fun t439 => (some (t439, true)))) else (some (([] : List Int), false)))) = some (r1, r2) := h
  clear h
  replace H := Option.bind_eq_some_iff.mp H
  obtain ⟨t435, A30, H⟩ := H
  replace H : (if t435 = true then ((impl_promotionLengths.f k a0 a1).bind fun t436 => ((impl_stabilizers.f k t436 (wrap64 (a0 * a1))).bind fun t439 => (some (t439, true)))) else (some (([] : List Int), false))) = some (r1, r2) := H
  have A3 := Aside0.mk A30
  clear A30
  by_cases c4 : t435 = true
  · subst c4
    have H1 : ((impl_promotionLengths.f k a0 a1).bind fun t436 => ((impl_stabilizers.f k t436 (wrap64 (a0 * a1))).bind fun t439 => (some (t439, true)))) = some (r1, r2) := by rw [if_pos rfl] at H; exact H
    clear H
    have H := H1
    clear H1
    replace H := Option.bind_eq_some_iff.mp H
    obtain ⟨t436, A50, H⟩ := H
    replace H : ((impl_stabilizers.f k t436 (wrap64 (a0 * a1))).bind fun t439 => (some (t439, true))) = some (r1, r2) := H
    have A5 := Aside0.mk A50
    clear A50
    replace H := Option.bind_eq_some_iff.mp H
    obtain ⟨t439, A60, H⟩ := H
    replace H : (some (t439, true)) = some (r1, r2) := H
    have A6 := Aside0.mk A60
    clear A60
    simp only [Option.some.injEq, Prod.mk.injEq] at H
    obtain ⟨rfl, rfl⟩ := H
    go_enter Try.func24, Try.ntmps24
    go_wp2_with (first | ((with_reducible refine gate_callee (f := 37) rfl ?_); refine goesL_ (some 8) rfl rfl Try.func37 (by kernel_rfl) rfl #[.int .i64 a0, .int .i64 a1, .int .i64 10] rfl (by (try simp only [List.map_toArray, List.map_cons, List.map_nil]); first | done | rfl | (simp only [List.length_drop, List.length_take]; rfl)) ?_; (with_reducible refine (impl_areSides.calls a0 a1 10 true _ A3.out).mono ?_); rintro e w' ⟨rfl, ⟨nd, rfl⟩⟩; refine ⟨_, rfl, ?_⟩) | ((with_reducible refine gate_callee (f := 43) rfl ?_); refine goesL_ (some 12) rfl rfl Try.func43 (by kernel_rfl) rfl #[.int .i64 a0, .int .i64 a1] rfl (by (try simp only [List.map_toArray, List.map_cons, List.map_nil]); first | done | rfl | (simp only [List.length_drop, List.length_take]; rfl)) ?_; (with_reducible refine (impl_promotionLengths.calls k a0 a1 t436 _ A5.out).mono ?_); rintro e w7 ⟨v437, rfl, ho0, hb⟩; refine ⟨_, rfl, ?_⟩; have n0_ := Aside0.mk (Kd.R_lower ho0 (below_size (by repeat (first | (with_reducible first | exact HB.out | apply below_alloc | apply pw_below_drewN | apply below_drew1) | exact HB.out)))); have n1_ := Aside0.mk (below_step (by repeat (first | (with_reducible first | exact HB.out | apply below_alloc | apply pw_below_drewN | apply below_drew1) | exact HB.out)) hb); clear HB; have HO438 := n0_; have HB := n1_; clear n0_ n1_; (try clear hb); (try clear hb2); (try clear hk); (try clear hi); (try clear ho0); obtain ⟨Ao8, co8, eo8⟩ := Kd.R_slice HO438.out; subst eo8) | ((with_reducible refine gate_callee (f := 50) rfl ?_); refine goesL_ (some 16) rfl rfl Try.func50 (by kernel_rfl) rfl #[.slice Ao8 t436.length co8, .int .i64 (wrap64 (a0 * a1))] rfl (by (try simp only [List.map_toArray, List.map_cons, List.map_nil]); first | done | rfl | (simp only [List.length_drop, List.length_take]; rfl)) ?_; (with_reducible refine (impl_stabilizers.calls k _ _ t436 (wrap64 (a0 * a1)) t439 _ ?side1 ?side2 A6.out).mono ?_); (case side1 => repeat (first | exact (Kd.R_reads' HO438.out).2.2 | (with_reducible refine Kd.C_alloc ?_ _) | (with_reducible refine Kd.C_drewN ?_ _) | (with_reducible refine Kd.C_drew ?_))); (case side2 => exact (Kd.R_reads' HO438.out).2.1); rintro e w9 ⟨v440, rfl, ho0, hb⟩; refine ⟨_, rfl, ?_⟩; have n0_ := Aside0.mk (Kd.R_elder' (by (with_reducible repeat (first | apply Kd.R_alloc | apply Kd.R_drewN | apply Kd.R_drew)); exact HO438.out) (Kd.R_base ho0) hb); have n1_ := Aside0.mk (Kd.R_lower (Kd.R_new' ho0 (Kd.R_lt (by (with_reducible repeat (first | apply Kd.R_alloc | apply Kd.R_drewN | apply Kd.R_drew)); exact HO438.out))) (below_size (by repeat (first | (with_reducible first | exact HB.out | apply below_alloc | apply pw_below_drewN | apply below_drew1) | exact HB.out)))); have n2_ := Aside0.mk (below_step (by repeat (first | (with_reducible first | exact HB.out | apply below_alloc | apply pw_below_drewN | apply below_drew1) | exact HB.out)) hb); clear HO438; clear HB; have HO438 := n0_; have HO441 := n1_; have HB := n2_; clear n0_ n1_ n2_; (try clear hb); (try clear hb2); (try clear hk); (try clear hi); (try clear ho0)))
    go_ret2
    exact ⟨_, by first | rfl | (simp [errW_none, errW_some] <;> rfl) | (simp [*, errW_none, errW_some] <;> rfl), by (with_reducible repeat (first | apply Kd.R_alloc | apply Kd.R_drewN | apply Kd.R_drew)); exact Kd.R_mono HO441.out (fun _ hk => trivial), by repeat (first | (with_reducible first | exact HB.out | apply below_alloc | apply pw_below_drewN | apply below_drew1) | exact HB.out)⟩
  · replace c4 := Bool.eq_false_iff.mpr c4
    subst c4
    have H1 : (some (([] : List Int), false)) = some (r1, r2) := by rw [if_neg (show ¬ (false = true) by decide)] at H; exact H
    clear H
    have H := H1
    clear H1
    simp only [Option.some.injEq, Prod.mk.injEq] at H
    obtain ⟨rfl, rfl⟩ := H
    go_enter Try.func24, Try.ntmps24
    go_wp2_with (first | ((with_reducible refine gate_callee (f := 37) rfl ?_); refine goesL_ (some 8) rfl rfl Try.func37 (by kernel_rfl) rfl #[.int .i64 a0, .int .i64 a1, .int .i64 10] rfl (by (try simp only [List.map_toArray, List.map_cons, List.map_nil]); first | done | rfl | (simp only [List.length_drop, List.length_take]; rfl)) ?_; (with_reducible refine (impl_areSides.calls a0 a1 10 false _ A3.out).mono ?_); rintro e w' ⟨rfl, ⟨nd, rfl⟩⟩; refine ⟨_, rfl, ?_⟩))
    go_ret2
    exact ⟨_, by first | rfl | (simp [errW_none, errW_some] <;> rfl) | (simp [*, errW_none, errW_some] <;> rfl), by first | exact Kd.R_nil _ _ _ _ _ | exact Kd.N_nil _ _ _ _ _ | exact Kd.V_nil _ _ _ _ _ | exact Kd.Q_nil _ _ _ _ _ | exact Kd.S_nil _ _ _ _ _, by repeat (first | (with_reducible first | exact HB.out | apply below_alloc | apply pw_below_drewN | apply below_drew1) | exact HB.out)⟩
mutual
def laws_FnExactPromotionStabilizers.j0 : Nat → Int → Int → List Int → Bool → List Int → Bool → Option (Bool)
  | 0, _, _, _, _, _, _ => none
  | k + 1, x0, x1, x5, x6, x7, x33 => if x33 = true then (none) else ((laws_markIntS.f k x7 1).bind fun bt451 => ((laws_heldIntS.f k bt451.2 1).bind fun t453 => (if t453 < 0 then (none) else (if t453 = bt451.1 then ((impl_PromotionStabilizers.f k x0 x1).bind fun bt454 => ((laws_eqIntS.f k bt454.1 x5).bind fun t458 => (if t458 = true then (laws_FnExactPromotionStabilizers.j1 k bt451.2 bt451.1 (bt454.2 != x6)) else (laws_FnExactPromotionStabilizers.j1 k bt451.2 bt451.1 true)))) else (none)))))
def laws_FnExactPromotionStabilizers.j1 : Nat → List Int → Int → Bool → Option (Bool)
  | 0, _, _, _ => none
  | k + 1, x7, x9, x59 => if x59 = true then (none) else ((laws_heldIntS.f k x7 1).bind fun t459 => (if t459 < 0 then (none) else (if t459 = x9 then (some true) else (none))))
end
def laws_FnExactPromotionStabilizers.f (k : Nat) (a0 : Int) (a1 : Int) : Option (Bool) := (spec_PromotionStabilizers.f k a0 a1).bind fun bt442 => ((impl_PromotionStabilizers.f k a0 a1).bind fun bt446 => ((laws_eqIntS.f k bt446.1 bt442.1).bind fun t450 => (if t450 = true then (laws_FnExactPromotionStabilizers.j0 k a0 a1 bt442.1 bt442.2 bt446.1 (bt446.2 != bt442.2)) else (laws_FnExactPromotionStabilizers.j0 k a0 a1 bt442.1 bt442.2 bt446.1 true))))
theorem laws_FnExactPromotionStabilizers.mono_l : ∀ k, (∀ y0 y1 y2 y3 y4 y5, LeO (laws_FnExactPromotionStabilizers.j0 k y0 y1 y2 y3 y4 y5) (laws_FnExactPromotionStabilizers.j0 (k + 1) y0 y1 y2 y3 y4 y5)) ∧ (∀ y0 y1 y2, LeO (laws_FnExactPromotionStabilizers.j1 k y0 y1 y2) (laws_FnExactPromotionStabilizers.j1 (k + 1) y0 y1 y2))
  | 0 => ⟨fun _ _ _ _ _ _ r h => by simp [laws_FnExactPromotionStabilizers.j0] at h, fun _ _ _ r h => by simp [laws_FnExactPromotionStabilizers.j1] at h⟩
  | k + 1 => by
    obtain ⟨ih0, ih1⟩ := laws_FnExactPromotionStabilizers.mono_l k
    refine ⟨?_, ?_⟩
    · intro y0 y1 y2 y3 y4 y5
      unfold laws_FnExactPromotionStabilizers.j0
      repeat' first
      | (with_reducible exact ih0 _ _ _ _ _ _)
      | (with_reducible exact ih1 _ _ _)
      | (with_reducible exact impl_PromotionStabilizers.mono _ _ _)
      | (with_reducible exact laws_eqIntS.mono _ _ _)
      | (with_reducible exact laws_heldIntS.mono _ _ _)
      | (with_reducible exact laws_markIntS.mono _ _ _)
      | (with_reducible exact spec_PromotionStabilizers.mono _ _ _)
      | (with_reducible exact LeO.refl _)
      | (with_reducible exact LeO.none _)
      | (with_reducible refine LeO.ite ?_ ?_)
      | (with_reducible refine LeO.bind ?_ (fun _ => ?_))
      | exact ih0 _ _ _ _ _ _
      | exact ih1 _ _ _
      | exact impl_PromotionStabilizers.mono _ _ _
      | exact laws_eqIntS.mono _ _ _
      | exact laws_heldIntS.mono _ _ _
      | exact laws_markIntS.mono _ _ _
      | exact spec_PromotionStabilizers.mono _ _ _
      | exact LeO.none _
      | refine LeO.ite ?_ ?_
      | refine LeO.bind ?_ (fun _ => ?_)
    · intro y0 y1 y2
      unfold laws_FnExactPromotionStabilizers.j1
      repeat' first
      | (with_reducible exact ih0 _ _ _ _ _ _)
      | (with_reducible exact ih1 _ _ _)
      | (with_reducible exact impl_PromotionStabilizers.mono _ _ _)
      | (with_reducible exact laws_eqIntS.mono _ _ _)
      | (with_reducible exact laws_heldIntS.mono _ _ _)
      | (with_reducible exact laws_markIntS.mono _ _ _)
      | (with_reducible exact spec_PromotionStabilizers.mono _ _ _)
      | (with_reducible exact LeO.refl _)
      | (with_reducible exact LeO.none _)
      | (with_reducible refine LeO.ite ?_ ?_)
      | (with_reducible refine LeO.bind ?_ (fun _ => ?_))
      | exact ih0 _ _ _ _ _ _
      | exact ih1 _ _ _
      | exact impl_PromotionStabilizers.mono _ _ _
      | exact laws_eqIntS.mono _ _ _
      | exact laws_heldIntS.mono _ _ _
      | exact laws_markIntS.mono _ _ _
      | exact spec_PromotionStabilizers.mono _ _ _
      | exact LeO.none _
      | refine LeO.ite ?_ ?_
      | refine LeO.bind ?_ (fun _ => ?_)
theorem laws_FnExactPromotionStabilizers.mono : ∀ a0 a1 k, LeO (laws_FnExactPromotionStabilizers.f k a0 a1) (laws_FnExactPromotionStabilizers.f (k + 1) a0 a1) := by
  intro a0 a1 k
  obtain ⟨ih0, ih1⟩ := laws_FnExactPromotionStabilizers.mono_l k
  unfold laws_FnExactPromotionStabilizers.f
  repeat' first
      | (with_reducible exact ih0 _ _ _ _ _ _)
      | (with_reducible exact ih1 _ _ _)
      | (with_reducible exact impl_PromotionStabilizers.mono _ _ _)
      | (with_reducible exact laws_eqIntS.mono _ _ _)
      | (with_reducible exact laws_heldIntS.mono _ _ _)
      | (with_reducible exact laws_markIntS.mono _ _ _)
      | (with_reducible exact spec_PromotionStabilizers.mono _ _ _)
      | (with_reducible exact LeO.refl _)
      | (with_reducible exact LeO.none _)
      | (with_reducible refine LeO.ite ?_ ?_)
      | (with_reducible refine LeO.bind ?_ (fun _ => ?_))
      | exact ih0 _ _ _ _ _ _
      | exact ih1 _ _ _
      | exact impl_PromotionStabilizers.mono _ _ _
      | exact laws_eqIntS.mono _ _ _
      | exact laws_heldIntS.mono _ _ _
      | exact laws_markIntS.mono _ _ _
      | exact spec_PromotionStabilizers.mono _ _ _
      | exact LeO.none _
      | refine LeO.ite ?_ ?_
      | refine LeO.bind ?_ (fun _ => ?_)
set_option maxHeartbeats 8000000 in
set_option maxRecDepth 100000 in
theorem laws_FnExactPromotionStabilizers.calls (k : Nat) (a0 : Int) (a1 : Int) (r : Bool) (w : World) (h : laws_FnExactPromotionStabilizers.f k a0 a1 = some r) :
    Calls Try.prog 6 #[.int .i64 a0, .int .i64 a1] w fun e w' => e = .returned (.bool r) ∧ Below w.heap.size w w' := by
  have HB := Aside0.mk (Below.refl w.heap.size w)
  have H : ((spec_PromotionStabilizers.f k a0 a1).bind fun bt442 => ((impl_PromotionStabilizers.f k a0 a1).bind fun bt446 => ((laws_eqIntS.f k bt446.1 bt442.1).bind fun t450 => (if t450 = true then (laws_FnExactPromotionStabilizers.j0 k a0 a1 bt442.1 bt442.2 bt446.1 (bt446.2 != bt442.2)) else (laws_FnExactPromotionStabilizers.j0 k a0 a1 bt442.1 bt442.2 bt446.1 true))))) = some r := h
  clear h
  replace H := Option.bind_eq_some_iff.mp H
  obtain ⟨⟨t442, t443⟩, A30, H⟩ := H
  replace H : ((impl_PromotionStabilizers.f k a0 a1).bind fun bt446 => ((laws_eqIntS.f k bt446.1 t442).bind fun t450 => (if t450 = true then (laws_FnExactPromotionStabilizers.j0 k a0 a1 t442 t443 bt446.1 (bt446.2 != t443)) else (laws_FnExactPromotionStabilizers.j0 k a0 a1 t442 t443 bt446.1 true)))) = some r := H
  have A3 := Aside0.mk A30
  clear A30
  replace H := Option.bind_eq_some_iff.mp H
  obtain ⟨⟨t446, t447⟩, A40, H⟩ := H
  replace H : ((laws_eqIntS.f k t446 t442).bind fun t450 => (if t450 = true then (laws_FnExactPromotionStabilizers.j0 k a0 a1 t442 t443 t446 (t447 != t443)) else (laws_FnExactPromotionStabilizers.j0 k a0 a1 t442 t443 t446 true))) = some r := H
  have A4 := Aside0.mk A40
  clear A40
  have HC5 := Aside0.mk H
  clear H
  go_enter Try.func6, Try.ntmps6
  go_upto_region 3 with (first | ((with_reducible refine gate_callee (f := 23) rfl ?_); refine goesL_ (some 16) rfl rfl Try.func23 (by kernel_rfl) rfl #[.int .i64 a0, .int .i64 a1] rfl (by (try simp only [List.map_toArray, List.map_cons, List.map_nil]); first | done | rfl | (simp only [List.length_drop, List.length_take]; rfl)) ?_; (with_reducible refine (spec_PromotionStabilizers.calls k a0 a1 t442 t443 _ A3.out).mono ?_); rintro e w6 ⟨v444, rfl, ho0, hb⟩; refine ⟨_, rfl, ?_⟩; have n0_ := Aside0.mk (Kd.R_lower ho0 (below_size (by repeat (first | (with_reducible first | exact HB.out | apply below_alloc | apply pw_below_drewN | apply below_drew1) | exact HB.out)))); have n1_ := Aside0.mk (below_step (by repeat (first | (with_reducible first | exact HB.out | apply below_alloc | apply pw_below_drewN | apply below_drew1) | exact HB.out)) hb); clear HB; have HO445 := n0_; have HB := n1_; clear n0_ n1_; (try clear hb); (try clear hb2); (try clear hk); (try clear hi); (try clear ho0)) | ((with_reducible refine gate_callee (f := 24) rfl ?_); refine goesL_ (some 22) rfl rfl Try.func24 (by kernel_rfl) rfl #[.int .i64 a0, .int .i64 a1] rfl (by (try simp only [List.map_toArray, List.map_cons, List.map_nil]); first | done | rfl | (simp only [List.length_drop, List.length_take]; rfl)) ?_; (with_reducible refine (impl_PromotionStabilizers.calls k a0 a1 t446 t447 _ A4.out).mono ?_); rintro e w7 ⟨v448, rfl, ho0, hb⟩; refine ⟨_, rfl, ?_⟩; have n0_ := Aside0.mk (Kd.R_elder' (by (with_reducible repeat (first | apply Kd.R_alloc | apply Kd.R_drewN | apply Kd.R_drew)); exact HO445.out) (Kd.R_base ho0) hb); have n1_ := Aside0.mk (Kd.R_lower (Kd.R_new' ho0 (Kd.R_lt (by (with_reducible repeat (first | apply Kd.R_alloc | apply Kd.R_drewN | apply Kd.R_drew)); exact HO445.out))) (below_size (by repeat (first | (with_reducible first | exact HB.out | apply below_alloc | apply pw_below_drewN | apply below_drew1) | exact HB.out)))); have n2_ := Aside0.mk (below_step (by repeat (first | (with_reducible first | exact HB.out | apply below_alloc | apply pw_below_drewN | apply below_drew1) | exact HB.out)) hb); clear HO445; clear HB; have HO445 := n0_; have HO449 := n1_; have HB := n2_; clear n0_ n1_ n2_; (try clear hb); (try clear hb2); (try clear hk); (try clear hi); (try clear ho0)))
  (try simp only [Act.put, List.setIfInBounds_toArray, List.set_cons_zero, List.set_cons_succ])
  go_cut [33] (fun v33 wc => ∃ (kq : Nat) (x33_4 : Bool), v33 = .bool x33_4 ∧ Aside0 (laws_FnExactPromotionStabilizers.j0 kq a0 a1 t442 t443 t446 x33_4 = some r) ∧ Aside0 (kq ≤ k) ∧ Aside0 (Kd.R (Kd.int .i64) 3 wc w.heap.size (fun k_ => some k_ ≠ (v448 : Value).ownBlock) v444 t442) ∧ Aside0 (Kd.R (Kd.int .i64) 3 wc w.heap.size (fun k_ => some k_ ≠ (v444 : Value).ownBlock) v448 t446) ∧ Aside0 (Below w.heap.size w wc))
  case first =>
    have H := HC5.out
    clear HC5
    replace H := Option.bind_eq_some_iff.mp H
    obtain ⟨t450, A80, H⟩ := H
    replace H : (if t450 = true then (laws_FnExactPromotionStabilizers.j0 k a0 a1 t442 t443 t446 (t447 != t443)) else (laws_FnExactPromotionStabilizers.j0 k a0 a1 t442 t443 t446 true)) = some r := H
    have A8 := Aside0.mk A80
    clear A80
    by_cases c9 : t450 = true
    · subst c9
      have H1 : (laws_FnExactPromotionStabilizers.j0 k a0 a1 t442 t443 t446 (t447 != t443)) = some r := by rw [if_pos rfl] at H; exact H
      clear H
      have H := H1
      clear H1
      have H' := Aside0.mk H
      clear H
      obtain ⟨Ao10, co10, eo10⟩ := Kd.R_slice HO449.out
      subst eo10
      obtain ⟨Ao11, co11, eo11⟩ := Kd.R_slice HO445.out
      subst eo11
      go_wp2_with (first | ((with_reducible refine gate_callee (f := 18) rfl ?_); refine goesL_ (some 27) rfl rfl Try.func18 (by kernel_rfl) rfl #[.slice Ao10 t446.length co10, .slice Ao11 t442.length co11] rfl (by (try simp only [List.map_toArray, List.map_cons, List.map_nil]); first | done | rfl | (simp only [List.length_drop, List.length_take]; rfl)) ?_; (with_reducible refine (laws_eqIntS.calls k _ _ t446 _ _ t442 true _ ?side1 ?side2 ?side3 ?side4 A8.out).mono ?_); (case side1 => repeat (first | exact (Kd.R_reads' HO449.out).2.2 | (with_reducible refine Kd.C_alloc ?_ _) | (with_reducible refine Kd.C_drewN ?_ _) | (with_reducible refine Kd.C_drew ?_))); (case side2 => exact (Kd.R_reads' HO449.out).2.1); (case side3 => repeat (first | exact (Kd.R_reads' HO445.out).2.2 | (with_reducible refine Kd.C_alloc ?_ _) | (with_reducible refine Kd.C_drewN ?_ _) | (with_reducible refine Kd.C_drew ?_))); (case side4 => exact (Kd.R_reads' HO445.out).2.1); rintro e w' ⟨rfl, ⟨nd, rfl⟩⟩; refine ⟨_, rfl, ?_⟩))
      go_meet
      case rel => exact ⟨_, ((t447 != t443)), (by first | rfl | (simp; done) | (simp [*]; done)), H', ⟨by first | omega | exact Nat.le_refl _⟩, ⟨by (with_reducible repeat (first | apply Kd.R_alloc | apply Kd.R_drewN | apply Kd.R_drew)); exact Kd.R_mono HO445.out (fun _ hk => hk.2)⟩, ⟨by (with_reducible repeat (first | apply Kd.R_alloc | apply Kd.R_drewN | apply Kd.R_drew)); exact Kd.R_mono HO449.out (fun _ hk => hk.2)⟩, ⟨by repeat (first | (with_reducible first | exact HB.out | apply below_alloc | apply pw_below_drewN | apply below_drew1) | exact HB.out)⟩⟩
    · replace c9 := Bool.eq_false_iff.mpr c9
      subst c9
      have H1 : (laws_FnExactPromotionStabilizers.j0 k a0 a1 t442 t443 t446 true) = some r := by rw [if_neg (show ¬ (false = true) by decide)] at H; exact H
      clear H
      have H := H1
      clear H1
      have H' := Aside0.mk H
      clear H
      obtain ⟨Ao12, co12, eo12⟩ := Kd.R_slice HO449.out
      subst eo12
      obtain ⟨Ao13, co13, eo13⟩ := Kd.R_slice HO445.out
      subst eo13
      go_wp2_with (first | ((with_reducible refine gate_callee (f := 18) rfl ?_); refine goesL_ (some 27) rfl rfl Try.func18 (by kernel_rfl) rfl #[.slice Ao12 t446.length co12, .slice Ao13 t442.length co13] rfl (by (try simp only [List.map_toArray, List.map_cons, List.map_nil]); first | done | rfl | (simp only [List.length_drop, List.length_take]; rfl)) ?_; (with_reducible refine (laws_eqIntS.calls k _ _ t446 _ _ t442 false _ ?side1 ?side2 ?side3 ?side4 A8.out).mono ?_); (case side1 => repeat (first | exact (Kd.R_reads' HO449.out).2.2 | (with_reducible refine Kd.C_alloc ?_ _) | (with_reducible refine Kd.C_drewN ?_ _) | (with_reducible refine Kd.C_drew ?_))); (case side2 => exact (Kd.R_reads' HO449.out).2.1); (case side3 => repeat (first | exact (Kd.R_reads' HO445.out).2.2 | (with_reducible refine Kd.C_alloc ?_ _) | (with_reducible refine Kd.C_drewN ?_ _) | (with_reducible refine Kd.C_drew ?_))); (case side4 => exact (Kd.R_reads' HO445.out).2.1); rintro e w' ⟨rfl, ⟨nd, rfl⟩⟩; refine ⟨_, rfl, ?_⟩))
      go_meet
      case rel => exact ⟨_, (true), (by first | rfl | (simp; done) | (simp [*]; done)), H', ⟨by first | omega | exact Nat.le_refl _⟩, ⟨by (with_reducible repeat (first | apply Kd.R_alloc | apply Kd.R_drewN | apply Kd.R_drew)); exact Kd.R_mono HO445.out (fun _ hk => hk.2)⟩, ⟨by (with_reducible repeat (first | apply Kd.R_alloc | apply Kd.R_drewN | apply Kd.R_drew)); exact Kd.R_mono HO449.out (fun _ hk => hk.2)⟩, ⟨by repeat (first | (with_reducible first | exact HB.out | apply below_alloc | apply pw_below_drewN | apply below_drew1) | exact HB.out)⟩⟩
  case rest =>
    clear HC5
    try clear c1
    try clear c2
    try clear p2
    try clear c6
    try clear c9
    obtain ⟨kq, x33_4, rfl, HA, HJ4, HO_5, HO_7, HB⟩ := hcut
    cases kq with
    | zero => exact absurd HA.out (by simp [laws_FnExactPromotionStabilizers.j0])
    | succ kj4 =>
      have H := HA.out
      clear HA
      simp only [laws_FnExactPromotionStabilizers.j0] at H
      by_cases c14 : x33_4 = true
      · subst c14
        have H1 : (none) = some r := by rw [if_pos rfl] at H; exact H
        clear H
        have H := H1
        clear H1
        exact absurd H (by simp)
      · replace c14 := Bool.eq_false_iff.mpr c14
        subst c14
        have H1 : ((laws_markIntS.f kj4 t446 1).bind fun bt451 => ((laws_heldIntS.f kj4 bt451.2 1).bind fun t453 => (if t453 < 0 then (none) else (if t453 = bt451.1 then ((impl_PromotionStabilizers.f kj4 a0 a1).bind fun bt454 => ((laws_eqIntS.f kj4 bt454.1 t442).bind fun t458 => (if t458 = true then (laws_FnExactPromotionStabilizers.j1 kj4 bt451.2 bt451.1 (bt454.2 != t443)) else (laws_FnExactPromotionStabilizers.j1 kj4 bt451.2 bt451.1 true)))) else (none))))) = some r := by rw [if_neg (show ¬ (false = true) by decide)] at H; exact H
        clear H
        have H := H1
        clear H1
        replace H := Option.bind_eq_some_iff.mp H
        obtain ⟨⟨t451, t452⟩, A150, H⟩ := H
        replace H : ((laws_heldIntS.f kj4 t452 1).bind fun t453 => (if t453 < 0 then (none) else (if t453 = t451 then ((impl_PromotionStabilizers.f kj4 a0 a1).bind fun bt454 => ((laws_eqIntS.f kj4 bt454.1 t442).bind fun t458 => (if t458 = true then (laws_FnExactPromotionStabilizers.j1 kj4 t452 t451 (bt454.2 != t443)) else (laws_FnExactPromotionStabilizers.j1 kj4 t452 t451 true)))) else (none)))) = some r := H
        have A15 := Aside0.mk A150
        clear A150
        replace H := Option.bind_eq_some_iff.mp H
        obtain ⟨t453, A160, H⟩ := H
        replace H : (if t453 < 0 then (none) else (if t453 = t451 then ((impl_PromotionStabilizers.f kj4 a0 a1).bind fun bt454 => ((laws_eqIntS.f kj4 bt454.1 t442).bind fun t458 => (if t458 = true then (laws_FnExactPromotionStabilizers.j1 kj4 t452 t451 (bt454.2 != t443)) else (laws_FnExactPromotionStabilizers.j1 kj4 t452 t451 true)))) else (none))) = some r := H
        have A16 := Aside0.mk A160
        clear A160
        by_cases c17 : t453 < 0
        · rw [if_pos c17] at H
          exact absurd H (by simp)
        · rw [if_neg c17] at H
          have c17b0 : decide (t453 < 0) = false := decide_eq_false c17
          clear c17
          by_cases c18 : t453 = t451
          · rw [if_pos c18] at H
            have c18b0 : (t453 == t451) = true := beq_iff_eq.mpr c18
            have c18b1 : (t453 != t451) = false := bne_eq_false_iff_eq.mpr c18
            clear c18
            replace H := Option.bind_eq_some_iff.mp H
            obtain ⟨⟨t454, t455⟩, A190, H⟩ := H
            replace H : ((laws_eqIntS.f kj4 t454 t442).bind fun t458 => (if t458 = true then (laws_FnExactPromotionStabilizers.j1 kj4 t452 t451 (t455 != t443)) else (laws_FnExactPromotionStabilizers.j1 kj4 t452 t451 true))) = some r := H
            have A19 := Aside0.mk A190
            clear A190
            have HC20 := Aside0.mk H
            clear H
            obtain ⟨Ao21, co21, eo21⟩ := Kd.R_slice HO_7.out
            subst eo21
            go_upto_region 14 with (first | ((with_reducible refine gate_callee (f := 19) rfl ?_); refine goesL_ (some 36) rfl rfl Try.func19 (by kernel_rfl) rfl #[.slice Ao21 t446.length co21, .int .i64 1] rfl (by (try simp only [List.map_toArray, List.map_cons, List.map_nil]); first | done | rfl | (simp only [List.length_drop, List.length_take]; rfl)) ?_; (with_reducible refine (laws_markIntS.calls kj4 (fun k_ => some k_ = (.slice Ao21 t446.length co21 : Value).ownBlock) (.slice Ao21 t446.length co21) t446 1 t451 t452 w _ ?side1 ?side2 A15.out).mono ?_); (case side1 => repeat (first | (with_reducible first | exact HB.out | apply below_alloc | apply pw_below_drewN | apply below_drew1) | exact HB.out)); (case side2 => exact Kd.R_tight rfl HO_7.out); rintro e w22 ⟨rfl, hy0, hb, hkp⟩; refine ⟨_, rfl, ?_⟩; have n0_ := Aside0.mk (Kd.R_mono (ok' := fun k_ => some k_ ≠ (.slice Ao21 t446.length co21 : Value).ownBlock) (Kd.R_keptB (HO_5.out) hkp (fun k_ hk_ hs_ => (hk_) hs_)) (fun k_ hk_ => hk_.1)); have n1_ := Aside0.mk (Kd.R_reok rfl hy0 (fun k_ e_ => HO_7.out.1 k_ e_)); have n2_ := Aside0.mk (hb); clear HO_5; clear HO_7; clear HB; have HO_5 := n0_; have HO_7 := n1_; have HB := n2_; clear n0_ n1_ n2_; (try clear hb); (try clear hkp); (try clear hy0)) | ((with_reducible refine gate_callee (f := 20) rfl ?_); refine goesL_ (some 39) rfl rfl Try.func20 (by kernel_rfl) rfl #[.slice Ao21 t452.length co21, .int .i64 1] rfl (by (try simp only [List.map_toArray, List.map_cons, List.map_nil]); first | done | (rw [show t452.length = t446.length from (Kd.R_reads' HO_7.out).1.symm] <;> rfl) | rfl | (simp only [List.length_drop, List.length_take]; rfl)) ?_; (with_reducible refine (laws_heldIntS.calls kj4 _ _ t452 1 t453 _ ?side1 ?side2 A16.out).mono ?_); (case side1 => repeat (first | exact (Kd.R_reads' HO_7.out).2.2 | (with_reducible refine Kd.C_alloc ?_ _) | (with_reducible refine Kd.C_drewN ?_ _) | (with_reducible refine Kd.C_drew ?_))); (case side2 => rw [show t452.length = t446.length from (Kd.R_reads' HO_7.out).1.symm]; exact (Kd.R_reads' HO_7.out).2.1); rintro e w' ⟨rfl, ⟨nd, rfl⟩⟩; refine ⟨_, rfl, ?_⟩) | ((with_reducible refine gate_callee (f := 24) rfl ?_); refine goesL_ (some 48) rfl rfl Try.func24 (by kernel_rfl) rfl #[.int .i64 a0, .int .i64 a1] rfl (by (try simp only [List.map_toArray, List.map_cons, List.map_nil]); first | done | rfl | (simp only [List.length_drop, List.length_take]; rfl)) ?_; (with_reducible refine (impl_PromotionStabilizers.calls kj4 a0 a1 t454 t455 _ A19.out).mono ?_); rintro e w23 ⟨v456, rfl, ho0, hb⟩; refine ⟨_, rfl, ?_⟩; have n0_ := Aside0.mk (Kd.R_elder' (by (with_reducible repeat (first | apply Kd.R_alloc | apply Kd.R_drewN | apply Kd.R_drew)); exact HO_5.out) (Kd.R_base ho0) hb); have n1_ := Aside0.mk (Kd.R_elder' (by (with_reducible repeat (first | apply Kd.R_alloc | apply Kd.R_drewN | apply Kd.R_drew)); exact HO_7.out) (Kd.R_base ho0) hb); have n2_ := Aside0.mk (Kd.R_lower (Kd.R_new' (Kd.R_new' ho0 (Kd.R_lt (by (with_reducible repeat (first | apply Kd.R_alloc | apply Kd.R_drewN | apply Kd.R_drew)); exact HO_5.out))) (Kd.R_lt (by (with_reducible repeat (first | apply Kd.R_alloc | apply Kd.R_drewN | apply Kd.R_drew)); exact HO_7.out))) (below_size (by repeat (first | (with_reducible first | exact HB.out | apply below_alloc | apply pw_below_drewN | apply below_drew1) | exact HB.out)))); have n3_ := Aside0.mk (below_step (by repeat (first | (with_reducible first | exact HB.out | apply below_alloc | apply pw_below_drewN | apply below_drew1) | exact HB.out)) hb); clear HO_5; clear HO_7; clear HB; have HO_5 := n0_; have HO_7 := n1_; have HO457 := n2_; have HB := n3_; clear n0_ n1_ n2_ n3_; (try clear hb); (try clear hb2); (try clear hk); (try clear hi); (try clear ho0)))
            (try simp only [Act.put, List.setIfInBounds_toArray, List.set_cons_zero, List.set_cons_succ])
            go_cut [59] (fun v59 wc => ∃ (kq : Nat) (x59_19 : Bool), v59 = .bool x59_19 ∧ Aside0 (laws_FnExactPromotionStabilizers.j1 kq t452 t451 x59_19 = some r) ∧ Aside0 (kq ≤ kj4) ∧ Aside0 (Kd.R (Kd.int .i64) 3 wc w.heap.size (fun _ => True) (.slice Ao21 t446.length co21) t452) ∧ Aside0 (Below w.heap.size w wc))
            case first =>
              have H := HC20.out
              clear HC20
              replace H := Option.bind_eq_some_iff.mp H
              obtain ⟨t458, A240, H⟩ := H
              replace H : (if t458 = true then (laws_FnExactPromotionStabilizers.j1 kj4 t452 t451 (t455 != t443)) else (laws_FnExactPromotionStabilizers.j1 kj4 t452 t451 true)) = some r := H
              have A24 := Aside0.mk A240
              clear A240
              by_cases c25 : t458 = true
              · subst c25
                have H1 : (laws_FnExactPromotionStabilizers.j1 kj4 t452 t451 (t455 != t443)) = some r := by rw [if_pos rfl] at H; exact H
                clear H
                have H := H1
                clear H1
                have H' := Aside0.mk H
                clear H
                obtain ⟨Ao26, co26, eo26⟩ := Kd.R_slice HO457.out
                subst eo26
                obtain ⟨Ao27, co27, eo27⟩ := Kd.R_slice HO_5.out
                subst eo27
                go_wp2_with (first | ((with_reducible refine gate_callee (f := 18) rfl ?_); refine goesL_ (some 53) rfl rfl Try.func18 (by kernel_rfl) rfl #[.slice Ao26 t454.length co26, .slice Ao27 t442.length co27] rfl (by (try simp only [List.map_toArray, List.map_cons, List.map_nil]); first | done | rfl | (simp only [List.length_drop, List.length_take]; rfl)) ?_; (with_reducible refine (laws_eqIntS.calls kj4 _ _ t454 _ _ t442 true _ ?side1 ?side2 ?side3 ?side4 A24.out).mono ?_); (case side1 => repeat (first | exact (Kd.R_reads' HO457.out).2.2 | (with_reducible refine Kd.C_alloc ?_ _) | (with_reducible refine Kd.C_drewN ?_ _) | (with_reducible refine Kd.C_drew ?_))); (case side2 => exact (Kd.R_reads' HO457.out).2.1); (case side3 => repeat (first | exact (Kd.R_reads' HO_5.out).2.2 | (with_reducible refine Kd.C_alloc ?_ _) | (with_reducible refine Kd.C_drewN ?_ _) | (with_reducible refine Kd.C_drew ?_))); (case side4 => exact (Kd.R_reads' HO_5.out).2.1); rintro e w' ⟨rfl, ⟨nd, rfl⟩⟩; refine ⟨_, rfl, ?_⟩))
                go_meet
                case rel => exact ⟨_, ((t455 != t443)), (by first | rfl | (simp; done) | (simp [*]; done)), H', ⟨by have := HJ4.out; first | omega | exact Nat.le_refl _⟩, ⟨by (with_reducible repeat (first | apply Kd.R_alloc | apply Kd.R_drewN | apply Kd.R_drew)); exact Kd.R_mono HO_7.out (fun _ hk => trivial)⟩, ⟨by repeat (first | (with_reducible first | exact HB.out | apply below_alloc | apply pw_below_drewN | apply below_drew1) | exact HB.out)⟩⟩
              · replace c25 := Bool.eq_false_iff.mpr c25
                subst c25
                have H1 : (laws_FnExactPromotionStabilizers.j1 kj4 t452 t451 true) = some r := by rw [if_neg (show ¬ (false = true) by decide)] at H; exact H
                clear H
                have H := H1
                clear H1
                have H' := Aside0.mk H
                clear H
                obtain ⟨Ao28, co28, eo28⟩ := Kd.R_slice HO457.out
                subst eo28
                obtain ⟨Ao29, co29, eo29⟩ := Kd.R_slice HO_5.out
                subst eo29
                go_wp2_with (first | ((with_reducible refine gate_callee (f := 18) rfl ?_); refine goesL_ (some 53) rfl rfl Try.func18 (by kernel_rfl) rfl #[.slice Ao28 t454.length co28, .slice Ao29 t442.length co29] rfl (by (try simp only [List.map_toArray, List.map_cons, List.map_nil]); first | done | rfl | (simp only [List.length_drop, List.length_take]; rfl)) ?_; (with_reducible refine (laws_eqIntS.calls kj4 _ _ t454 _ _ t442 false _ ?side1 ?side2 ?side3 ?side4 A24.out).mono ?_); (case side1 => repeat (first | exact (Kd.R_reads' HO457.out).2.2 | (with_reducible refine Kd.C_alloc ?_ _) | (with_reducible refine Kd.C_drewN ?_ _) | (with_reducible refine Kd.C_drew ?_))); (case side2 => exact (Kd.R_reads' HO457.out).2.1); (case side3 => repeat (first | exact (Kd.R_reads' HO_5.out).2.2 | (with_reducible refine Kd.C_alloc ?_ _) | (with_reducible refine Kd.C_drewN ?_ _) | (with_reducible refine Kd.C_drew ?_))); (case side4 => exact (Kd.R_reads' HO_5.out).2.1); rintro e w' ⟨rfl, ⟨nd, rfl⟩⟩; refine ⟨_, rfl, ?_⟩))
                go_meet
                case rel => exact ⟨_, (true), (by first | rfl | (simp; done) | (simp [*]; done)), H', ⟨by have := HJ4.out; first | omega | exact Nat.le_refl _⟩, ⟨by (with_reducible repeat (first | apply Kd.R_alloc | apply Kd.R_drewN | apply Kd.R_drew)); exact Kd.R_mono HO_7.out (fun _ hk => trivial)⟩, ⟨by repeat (first | (with_reducible first | exact HB.out | apply below_alloc | apply pw_below_drewN | apply below_drew1) | exact HB.out)⟩⟩
            case rest =>
              clear HC20
              try clear c1
              try clear c2
              try clear p2
              try clear c6
              try clear c9
              try clear c14
              try clear c17
              try clear c17b0
              try clear c18
              try clear c18b0
              try clear c18b1
              try clear c19
              try clear c20
              try clear c23
              try clear c24
              try clear c25
              try clear p2
              obtain ⟨kq, x59_19, rfl, HA, HJ19, HO_7, HB⟩ := hcut
              have hl7_19 := (Kd.R_reads' HO_7.out).1
              rw [hl7_19] at HO_7
              (try simp only [hl7_19])
              cases kq with
              | zero => exact absurd HA.out (by simp [laws_FnExactPromotionStabilizers.j1])
              | succ kj19 =>
                have H := HA.out
                clear HA
                simp only [laws_FnExactPromotionStabilizers.j1] at H
                by_cases c30 : x59_19 = true
                · subst c30
                  have H1 : (none) = some r := by rw [if_pos rfl] at H; exact H
                  clear H
                  have H := H1
                  clear H1
                  exact absurd H (by simp)
                · replace c30 := Bool.eq_false_iff.mpr c30
                  subst c30
                  have H1 : ((laws_heldIntS.f kj19 t452 1).bind fun t459 => (if t459 < 0 then (none) else (if t459 = t451 then (some true) else (none)))) = some r := by rw [if_neg (show ¬ (false = true) by decide)] at H; exact H
                  clear H
                  have H := H1
                  clear H1
                  replace H := Option.bind_eq_some_iff.mp H
                  obtain ⟨t459, A310, H⟩ := H
                  replace H : (if t459 < 0 then (none) else (if t459 = t451 then (some true) else (none))) = some r := H
                  have A31 := Aside0.mk A310
                  clear A310
                  by_cases c32 : t459 < 0
                  · rw [if_pos c32] at H
                    exact absurd H (by simp)
                  · rw [if_neg c32] at H
                    have c32b0 : decide (t459 < 0) = false := decide_eq_false c32
                    clear c32
                    by_cases c33 : t459 = t451
                    · rw [if_pos c33] at H
                      have c33b0 : (t459 == t451) = true := beq_iff_eq.mpr c33
                      have c33b1 : (t459 != t451) = false := bne_eq_false_iff_eq.mpr c33
                      clear c33
                      obtain rfl := Option.some.inj H
                      go_wp2_with (first | ((with_reducible refine gate_callee (f := 20) rfl ?_); refine goesL_ (some 62) rfl rfl Try.func20 (by kernel_rfl) rfl #[.slice Ao21 t452.length co21, .int .i64 1] rfl (by (try simp only [List.map_toArray, List.map_cons, List.map_nil]); first | done | rfl | (simp only [List.length_drop, List.length_take]; rfl)) ?_; (with_reducible refine (laws_heldIntS.calls kj19 _ _ t452 1 t459 _ ?side1 ?side2 A31.out).mono ?_); (case side1 => repeat (first | exact (Kd.R_reads' HO_7.out).2.2 | (with_reducible refine Kd.C_alloc ?_ _) | (with_reducible refine Kd.C_drewN ?_ _) | (with_reducible refine Kd.C_drew ?_))); (case side2 => exact (Kd.R_reads' HO_7.out).2.1); rintro e w' ⟨rfl, ⟨nd, rfl⟩⟩; refine ⟨_, rfl, ?_⟩))
                      go_ret
                      exact ⟨by first | rfl | (simp [errW_none, errW_some] <;> rfl) | (simp [*, errW_none, errW_some] <;> rfl), by repeat (first | (with_reducible first | exact HB.out | apply below_alloc | apply pw_below_drewN | apply below_drew1) | exact HB.out)⟩
                    · rw [if_neg c33] at H
                      exact absurd H (by simp)
          · rw [if_neg c18] at H
            exact absurd H (by simp)
def laws_FnExactPromotionStabilizers.Pure : Prop := ∀ (a0 : Int) (a1 : Int), (Lit.int .i64 a0).wf = true → (Lit.int .i64 a1).wf = true → ∃ k, laws_FnExactPromotionStabilizers.f k a0 a1 = some true
theorem laws_FnExactPromotionStabilizers.walk (P : laws_FnExactPromotionStabilizers.Pure) (a0 : Int) (a1 : Int) (w : World) (w0 : (Lit.int .i64 a0).wf = true) (w1 : (Lit.int .i64 a1).wf = true) :
    Calls Try.prog 6 #[.int .i64 a0, .int .i64 a1] w fun e w' => e = .returned (.bool true) ∧ Below w.heap.size w w' := by
  obtain ⟨k, h⟩ := P a0 a1 w0 w1
  refine (laws_FnExactPromotionStabilizers.calls k a0 a1 true w h).mono ?_
  rintro e w' ⟨rfl, hd⟩
  exact ⟨rfl, hd⟩
end Go.Proofs.Ytldbabadbggleaa.L
end
section
namespace Go.Proofs.Ytldbabadbggleaa.L
open Go.RowKit Go.Proofs.YtldbabadbggleaaW.PrintWords Go.Proofs.YtldbabadbggleaaW.PrintLast
def laws_FnExactPromotionStabilizers.Pure2 : Prop := ∀ (a0 : Int) (a1 : Int), (Lit.int .i64 a0).wf = true → (Lit.int .i64 a1).wf = true → ∃ k, laws_FnExactPromotionStabilizers.f k a0 a1 = some true
end Go.Proofs.Ytldbabadbggleaa.L
end
section
namespace Go.Proofs.Ytldbabadbggleaa.M
open Go.RowKit Go.Proofs.YtldbabadbggleaaW.PrintWords Go.Proofs.YtldbabadbggleaaW.PrintLast Go.Proofs.YtldbabadbggleaaW.PrintMore
theorem wrap_id {x : Int} (h0 : -9223372036854775808 ≤ x) (h1 : x ≤ 9223372036854775807) : wrap64 x = x := by unfold wrap64; omega
theorem wrap_succ {i : Nat} (h : i < 9223372036854775807) : wrap64 ((i : Int) + 1) = ((i + 1 : Nat) : Int) := by unfold wrap64; omega
theorem rd_get {l : List Int} {i : Nat} (h : i < l.length) : rd l (i : Int) = l[i] := by simp [rd, List.getD_eq_getElem?_getD, h]
theorem ev_ite {α : Type} {c : Prop} [Decidable c] {f g : Nat → Option α} {r : α} (h1 : c → Ev f r) (h2 : ¬ c → Ev g r) : Ev (fun k => if c then f k else g k) r := by
  by_cases h : c
  · obtain ⟨K, hK⟩ := h1 h; exact ⟨K, fun k hk => by simp only [if_pos h]; exact hK k hk⟩
  · obtain ⟨K, hK⟩ := h2 h; exact ⟨K, fun k hk => by simp only [if_neg h]; exact hK k hk⟩
theorem ev_pos {α : Type} {c : Prop} [Decidable c] {f g : Nat → Option α} {r : α} (h : c) (h1 : Ev f r) : Ev (fun k => if c then f k else g k) r := ev_ite (fun _ => h1) (fun h2 => absurd h h2)
theorem ev_neg {α : Type} {c : Prop} [Decidable c] {f g : Nat → Option α} {r : α} (h : ¬ c) (h1 : Ev g r) : Ev (fun k => if c then f k else g k) r := ev_ite (fun h2 => absurd h2 h) (fun _ => h1)
theorem ev_call {α β : Type} {x : Option α} {a : α} {f : Nat → α → Option β} {r : β} (h : x = some a) (k : Ev (fun n => f n a) r) : Ev (fun n => x.bind (f n)) r := by subst h; simpa using k
def inB (x lo hi : Int) : Bool := decide (lo ≤ x) && decide (x ≤ hi)
theorem inB_iff {x lo hi : Int} : inB x lo hi = true ↔ lo ≤ x ∧ x ≤ hi := by simp [inB]
end Go.Proofs.Ytldbabadbggleaa.M
end
section
namespace Go.Proofs.Ytldbabadbggleaa.M
open Go.RowKit Go.Proofs.YtldbabadbggleaaW.PrintWords Go.Proofs.YtldbabadbggleaaW.PrintLast Go.Proofs.YtldbabadbggleaaW.PrintMore Go.Proofs.Ytldbabadbggleaa.L
theorem eqIntS_l0 (a b : List Int) (hl : a.length ≤ 9223372036854775806) (hab : a.length = b.length) : ∀ (d i : Nat), i + d = a.length → Ev (fun k => laws_eqIntS.l0 k a b i) (decide (a.drop i = b.drop i))
  | 0, i, h => by
    have h1 : ¬ ((i : Int) < (a.length : Int)) := by omega
    refine Ev.step (fun _ => rfl) (ev_neg h1 ?_)
    rw [List.drop_of_length_le (by omega), List.drop_of_length_le (by omega)]
    exact Ev.now _
  | d + 1, i, h => by
    have h1 : (i : Int) < (a.length : Int) := by omega
    refine Ev.step (fun _ => rfl) (ev_pos h1 (ev_pos (by omega) (ev_pos (by omega) ?_)))
    rw [wrap_succ (by omega), rd_get (by omega : i < a.length), rd_get (by omega : i < b.length)]
    rw [List.drop_eq_getElem_cons (by omega : i < a.length), List.drop_eq_getElem_cons (by omega : i < b.length)]
    refine ev_ite (fun e => ?_) (fun e => ?_)
    · rw [decide_eq_decide.mpr (show (a[i] :: a.drop (i + 1) = b[i] :: b.drop (i + 1)) ↔ a.drop (i + 1) = b.drop (i + 1) by rw [List.cons.injEq]; exact ⟨fun z => z.2, fun z => ⟨e, z⟩⟩)]
      exact eqIntS_l0 a b hl hab d (i + 1) (by omega)
    · rw [decide_eq_false (show ¬ (a[i] :: a.drop (i + 1) = b[i] :: b.drop (i + 1)) by rw [List.cons.injEq]; exact fun z => e z.1)]
      exact Ev.now false
theorem eqIntS_ev (a b : List Int) (hl : a.length ≤ 9223372036854775806) : Ev (fun k => laws_eqIntS.f k a b) (decide (a = b)) := by
  refine ev_ite (fun e => ?_) (fun e => ?_)
  · simpa using eqIntS_l0 a b hl (by omega) a.length 0 (by omega)
  · have : ¬ a = b := fun z => e (by rw [z])
    simpa [this] using Ev.now false
def marks (q : Nat) (n : Nat) : List Int := (List.range' q n).map Int.ofNat
theorem marks_len (q n : Nat) : (marks q n).length = n := by simp [marks]
theorem marks_get (q n i : Nat) (h : i < (marks q n).length) : (marks q n)[i] = ((q + i : Nat) : Int) := by simp [marks]
theorem markIntS_l0 (n : Nat) (hn : n ≤ 4611686018427387903) (q : Nat) (hq : q ≤ 4611686018427387903) : ∀ (d i : Nat) (acc : List Int), i + d = n → acc.length = n → (∀ j (hj : j < acc.length), j < i → acc[j] = ((q + j : Nat) : Int)) →
    Ev (fun k => laws_markIntS.l0 k acc ((q + i : Nat) : Int) i) (((q + n : Nat) : Int), marks q n)
  | 0, i, acc, h, ha, hm => by
    have h1 : ¬ ((i : Int) < (acc.length : Int)) := by omega
    refine Ev.step (fun _ => rfl) (ev_neg h1 ?_)
    have e : acc = marks q n := List.ext_getElem (by rw [ha, marks_len]) (fun j h1 h2 => by rw [hm j h1 (by omega), marks_get])
    have e2 : i = n := by omega
    rw [e, e2]; exact Ev.now _
  | d + 1, i, acc, h, ha, hm => by
    have h1 : (i : Int) < (acc.length : Int) := by omega
    refine Ev.step (fun _ => rfl) (ev_pos h1 (ev_pos (by omega) ?_))
    rw [wrap_succ (by omega), wrap_succ (by omega), Int.toNat_natCast]
    refine markIntS_l0 n hn q hq d (i + 1) (acc.set i ((q + i : Nat) : Int)) (by omega) (by simp [ha]) (fun j hj hji => ?_)
    by_cases e : j = i
    · subst e; simp
    · rw [List.getElem_set_ne (by omega)]; exact hm j _ (by omega)
theorem markIntS_ev (l : List Int) (q : Nat) (hl : l.length ≤ 4611686018427387903) (hq : q ≤ 4611686018427387903) : Ev (fun k => laws_markIntS.f k l (q : Int)) (((q + l.length : Nat) : Int), marks q l.length) :=
  markIntS_l0 l.length hl q hq l.length 0 l (by omega) rfl (fun j _ h => by omega)
theorem heldIntS_l0 (q n : Nat) (hn : n ≤ 4611686018427387903) (hq : q ≤ 4611686018427387903) : ∀ (d i : Nat), i + d = n → Ev (fun k => laws_heldIntS.l0 k (marks q n) ((q + i : Nat) : Int) i) ((q + n : Nat) : Int)
  | 0, i, h => by
    have hm := marks_len q n
    have h1 : ¬ ((i : Int) < ((marks q n).length : Int)) := by omega
    refine Ev.step (fun _ => rfl) (ev_neg h1 ?_)
    have e2 : i = n := by omega
    rw [e2]; exact Ev.now _
  | d + 1, i, h => by
    have hm := marks_len q n
    have h1 : (i : Int) < ((marks q n).length : Int) := by omega
    refine Ev.step (fun _ => rfl) (ev_pos h1 (ev_pos (by omega) (ev_pos ?_ ?_)))
    · rw [rd_get (by omega), marks_get]
    · rw [wrap_succ (by omega), wrap_succ (by omega)]
      exact heldIntS_l0 q n hn hq d (i + 1) (by omega)
theorem heldIntS_ev (q n : Nat) (hn : n ≤ 4611686018427387903) (hq : q ≤ 4611686018427387903) : Ev (fun k => laws_heldIntS.f k (marks q n) (q : Int)) ((q + n : Nat) : Int) :=
  heldIntS_l0 q n hn hq n 0 (by omega)
theorem l1In_eq (x lo hi : Int) : spec_l1In.f x lo hi = some (inB x lo hi) := by
  unfold spec_l1In.f inB
  by_cases h : lo ≤ x <;> simp [h]
theorem within_eq (x lo hi : Int) : impl_within.f x lo hi = some (inB x lo hi) := by
  unfold impl_within.f inB
  by_cases h : lo ≤ x <;> simp [h]
end Go.Proofs.Ytldbabadbggleaa.M
end
section
namespace Go.Proofs.Ytldbabadbggleaa.M
open Go.RowKit Go.Proofs.YtldbabadbggleaaW.PrintWords Go.Proofs.YtldbabadbggleaaW.PrintLast Go.Proofs.YtldbabadbggleaaW.PrintMore Go.Proofs.Ytldbabadbggleaa.L
set_option linter.unusedVariables false
def sidesB (a b : Int) : Bool := inB a 1 10 && inB b 1 10 && decide (a * b ≤ 10)
theorem mul_small {a b : Int} (h1 : inB a 1 10 = true) (h2 : inB b 1 10 = true) : wrap64 (a * b) = a * b := by
  have b1 := inB_iff.mp h1
  have b2 := inB_iff.mp h2
  have h3 : 0 ≤ a * b := Int.mul_nonneg (by omega) (by omega)
  have h4 : a * b ≤ 10 * 10 := Int.mul_le_mul b1.2 b2.2 (by omega) (by omega)
  exact wrap_id (by omega) (by omega)
theorem shSides_eq (a b : Int) : spec_shSides.f a b = some (sidesB a b) := by
  unfold spec_shSides.f sidesB
  rw [l1In_eq, l1In_eq]
  cases h1 : inB a 1 10
  · rfl
  · cases h2 : inB b 1 10
    · rfl
    · rw [mul_small h1 h2]; rfl
theorem areSides_eq (a b : Int) : impl_areSides.f a b 10 = some (sidesB a b) := by
  unfold impl_areSides.f sidesB
  rw [within_eq, within_eq]
  cases h1 : inB a 1 10
  · rfl
  · cases h2 : inB b 1 10
    · rfl
    · rw [mul_small h1 h2]; rfl
end Go.Proofs.Ytldbabadbggleaa.M
end
section
namespace Go.Proofs.Ytldbabadbggleaa.M
open Go.RowKit Go.Proofs.YtldbabadbggleaaW.PrintWords Go.Proofs.YtldbabadbggleaaW.PrintLast Go.Proofs.YtldbabadbggleaaW.PrintMore
theorem wrap_nat {x : Nat} (h : x < 2 ^ 63) : IntKind.i64.wrap (x : Int) = (x : Int) := by
  rw [IntKind.wrap_i64]
  have : (x : Int) < 9223372036854775808 := by
    have h2 : (2 : Nat) ^ 63 = 9223372036854775808 := by decide
    omega
  omega
theorem ofInt_nat {a : Nat} (h : a < 2 ^ 63) : (BitVec.ofInt IntKind.i64.bits (a : Int)).toNat = a := by
  have e : IntKind.i64.bits = 64 := rfl
  rw [e, BitVec.ofInt_natCast, BitVec.toNat_ofNat]
  exact Nat.mod_eq_of_lt (Nat.lt_of_lt_of_le h (by decide))
theorem bits_or {a b : Nat} (ha : a < 2 ^ 63) (hb : b < 2 ^ 63) : Go.bits .or .i64 (a : Int) (b : Int) = ((a ||| b : Nat) : Int) := by
  simp only [Go.bits, BitVec.toNat_or, ofInt_nat ha, ofInt_nat hb]
  exact wrap_nat (Nat.or_lt_two_pow ha hb)
theorem shl_one {i : Nat} (h : i < 63) : shl .i64 1 (i : Int) = ((2 ^ i : Nat) : Int) := by
  unfold shl
  have e : min (i : Int).toNat IntKind.i64.bits = i := by
    have : IntKind.i64.bits = 64 := rfl
    rw [this, Int.toNat_natCast]; omega
  rw [e, Int.one_mul]
  have : ((2 : Int) ^ i) = ((2 ^ i : Nat) : Int) := by simp
  rw [this]
  exact wrap_nat (Nat.pow_lt_pow_right (by decide) h)
theorem shr_nat {a i : Nat} (h : i ≤ 64) : shr .i64 (a : Int) (i : Int) = ((a / 2 ^ i : Nat) : Int) := by
  unfold shr
  have e : min (i : Int).toNat IntKind.i64.bits = i := by
    have : IntKind.i64.bits = 64 := rfl
    rw [this, Int.toNat_natCast]; omega
  rw [e]; simp
theorem bit_mod {a i : Nat} (h : i ≤ 64) : (Int.tmod (shr .i64 (a : Int) (i : Int)) 2 == 1) = a.testBit i := by
  rw [shr_nat h]
  have : Int.tmod ((a / 2 ^ i : Nat) : Int) 2 = ((a / 2 ^ i % 2 : Nat) : Int) := by
    rw [show (2 : Int) = ((2 : Nat) : Int) from rfl, Int.ofNat_tmod]
  rw [this, Nat.testBit_eq_decide_div_mod_eq, Bool.eq_iff_iff, beq_iff_eq, decide_eq_true_eq]
  omega
end Go.Proofs.Ytldbabadbggleaa.M
end
section
namespace Go.Proofs.Ytldbabadbggleaa.M
set_option linter.unusedVariables false
open Go.RowKit Go.Proofs.YtldbabadbggleaaW.PrintWords Go.Proofs.YtldbabadbggleaaW.PrintLast Go.Proofs.YtldbabadbggleaaW.PrintMore
def toI (p : List Nat) : List Int := p.map fun (x : Nat) => (x : Int)
@[simp] theorem toI_len (p : List Nat) : (toI p).length = p.length := by simp [toI]
@[simp] theorem toI_nil : toI [] = [] := rfl
def less (p : List Nat) (i : Nat) : Nat := p.getD i 0
structure Good (p : List Nat) : Prop where
  pos : 1 ≤ p.length
  le : p.length ≤ 10
  lt : ∀ i, i < p.length → less p i < 2 ^ i
  tr : ∀ i, i < p.length → ∀ j, (less p i).testBit j = true → ∀ m, (less p j).testBit m = true → (less p i).testBit m = true
end Go.Proofs.Ytldbabadbggleaa.M
end
section
namespace Go.Proofs.Ytldbabadbggleaa.M
open Go.RowKit Go.Proofs.YtldbabadbggleaaW.PrintWords Go.Proofs.YtldbabadbggleaaW.PrintLast Go.Proofs.YtldbabadbggleaaW.PrintMore Go.Proofs.Ytldbabadbggleaa.L
set_option linter.unusedVariables false
theorem poIn_eq {s e : Nat} (he : e ≤ 64) : spec_poIn.f (s : Int) (e : Int) = some (s.testBit e) := by
  unfold spec_poIn.f; rw [if_pos (by omega), bit_mod he]
theorem pow_small {i : Nat} (h : i ≤ 10) : 2 ^ i ≤ 1024 := by
  have := Nat.pow_le_pow_right (n := 2) (by decide) h
  simpa using this
theorem rd_getD (l : List Int) (i : Nat) : rd l (i : Int) = l.getD i 0 := by simp [rd]
def cT (p : List Int) (s i : Nat) : Bool := !(s.testBit i) && decide (Go.bits .andNot .i64 (rd p (i : Int)) (s : Int) = 0)
def cN (p : List Int) (F : Nat) : Nat → Nat → Int
  | 0, _ => 0
  | d + 1, s => if s = F then 1 else (List.range p.length).foldl (fun a i => if cT p s i = true then wrap64 (a + cN p F d (s ||| 2 ^ i)) else a) 0
def cL (p : List Int) (F : Nat) : Nat → Nat → List Int
  | 0, _ => []
  | m + 1, s => cN p F (F + 1) s :: cL p F m (s + 1)
theorem cL_len (p : List Int) (F : Nat) : ∀ m s, (cL p F m s).length = m
  | 0, _ => rfl
  | m + 1, s => by rw [cL, List.length_cons, cL_len p F m]
theorem cL_get (p : List Int) (F : Nat) : ∀ m s i, i < m → (cL p F m s).getD i 0 = cN p F (F + 1) (s + i)
  | 0, _, _, h => by omega
  | m + 1, s, 0, h => by rw [cL]; rfl
  | m + 1, s, i + 1, h => by
    rw [cL, List.getD_cons_succ, cL_get p F m (s + 1) i (by omega), show s + 1 + i = s + (i + 1) by omega]
theorem foldl_same {α β : Type} {f g : α → β → α} : ∀ (l : List β) (a : α), (∀ a, ∀ b ∈ l, f a b = g a b) → l.foldl f a = l.foldl g a
  | [], a, h => rfl
  | b :: l, a, h => by
    rw [List.foldl_cons, List.foldl_cons, h a b List.mem_cons_self]
    exact foldl_same l _ (fun a b hb => h a b (List.mem_cons_of_mem _ hb))
theorem or_gt {s i n : Nat} (hi : i < n) (hs : s < 2 ^ n) (hb : s.testBit i = false) : s < s ||| 2 ^ i ∧ s ||| 2 ^ i < 2 ^ n := by
  constructor
  · have h1 : s ≤ s ||| 2 ^ i := Nat.left_le_or
    rcases Nat.lt_or_ge s (s ||| 2 ^ i) with h | h
    · exact h
    · have e : s = s ||| 2 ^ i := by omega
      have : (s ||| 2 ^ i).testBit i = true := by rw [Nat.testBit_or, Nat.testBit_two_pow_self, Bool.or_true]
      rw [← e, hb] at this
      cases this
  · exact Nat.or_lt_two_pow hs (Nat.pow_lt_pow_right (by decide) hi)
theorem cN_stable (p : List Int) {F : Nat} (hF : F = 2 ^ p.length - 1) : ∀ (d d' s : Nat), s ≤ F → F < d + s → F < d' + s → cN p F d s = cN p F d' s
  | 0, d', s, h1, h2, h3 => by omega
  | d + 1, 0, s, h1, h2, h3 => by omega
  | d + 1, d' + 1, s, h1, h2, h3 => by
    have hp := Nat.two_pow_pos p.length
    rw [cN, cN]
    by_cases e : s = F
    · rw [if_pos e, if_pos e]
    · rw [if_neg e, if_neg e]
      refine foldl_same _ _ (fun a i hi => ?_)
      rw [List.mem_range] at hi
      by_cases hc : cT p s i = true
      · rw [if_pos hc, if_pos hc]
        have hb : s.testBit i = false := by unfold cT at hc; rw [Bool.and_eq_true, Bool.not_eq_true'] at hc; exact hc.1
        have := or_gt hi (by omega) hb
        rw [cN_stable p hF d d' _ (by omega) (by omega) (by omega)]
      · rw [if_neg hc, if_neg hc]
def cF (p : List Int) (F s i : Nat) : Int := (List.range i).foldl (fun a i => if cT p s i = true then wrap64 (a + cN p F (F + 1) (s ||| 2 ^ i)) else a) 0
theorem cF_succ (p : List Int) (F s i : Nat) : cF p F s (i + 1) = if cT p s i = true then wrap64 (cF p F s i + cN p F (F + 1) (s ||| 2 ^ i)) else cF p F s i := by
  unfold cF
  rw [List.range_succ, List.foldl_append]
  rfl
theorem cF_all (p : List Int) {F : Nat} (hF : F = 2 ^ p.length - 1) {s : Nat} (hs : s < F) : cF p F s p.length = cN p F (F + 1) s := by
  have hp := Nat.two_pow_pos p.length
  rw [cN, if_neg (by omega)]
  unfold cF
  refine foldl_same _ _ (fun a i hi => ?_)
  rw [List.mem_range] at hi
  by_cases hc : cT p s i = true
  · rw [if_pos hc, if_pos hc]
    have hb : s.testBit i = false := by unfold cT at hc; rw [Bool.and_eq_true, Bool.not_eq_true'] at hc; exact hc.1
    have := or_gt hi (by omega) hb
    rw [cN_stable p hF (F + 1) F _ (by omega) (by omega) (by omega)]
  · rw [if_neg hc, if_neg hc]
structure CI (p : List Int) (F : Nat) (X : List Int) (s : Nat) : Prop where
  len : X.length = F + 1
  up : ∀ t, s < t → t ≤ F → X.getD t 0 = cN p F (F + 1) t
  low : ∀ t, t < s → X.getD t 0 = 0
theorem getD_set_same {X : List Int} {s : Nat} {v : Int} (h : s < X.length) : (X.set s v).getD s 0 = v := by
  simp [List.getD_eq_getElem?_getD, h]
theorem getD_set_ne {X : List Int} {s t : Nat} {v : Int} (h : s ≠ t) : (X.set s v).getD t 0 = X.getD t 0 := by
  simp [List.getD_eq_getElem?_getD, h]
theorem CI.set {p : List Int} {F : Nat} {X : List Int} {s : Nat} (h : CI p F X s) (v : Int) : CI p F (X.set s v) s :=
  ⟨by rw [List.length_set]; exact h.len, fun t h1 h2 => by rw [getD_set_ne (by omega)]; exact h.up t h1 h2, fun t h1 => by rw [getD_set_ne (by omega)]; exact h.low t h1⟩
theorem liC_l1 (p : List Int) (hn : p.length ≤ 10) {F : Nat} (hF : F = 2 ^ p.length - 1) {s : Nat} (hs : s < F) {R : List Int} : ∀ (d i : Nat) (X : List Int), i + d = p.length → CI p F X s → X.getD s 0 = cF p F s i →
    (∀ X', CI p F X' s → X'.getD s 0 = cN p F (F + 1) s → Ev (fun k => spec_liCounts.l0 k X' (wrap64 ((s : Int) - 1)) p) R) → Ev (fun k => spec_liCounts.l1 k X (s : Int) p (p.length : Int) (i : Int) p) R
  | 0, i, X, e, hX, hv, hK => by
    refine Ev.step (fun _ => spec_liCounts.l1.eq_2 ..) (ev_neg (by omega) ?_)
    exact hK X hX (by rw [hv, show i = p.length by omega, cF_all p hF hs])
  | d + 1, i, X, e, hX, hv, hK => by
    have hp := Nat.two_pow_pos p.length
    have hF10 : F < 1024 := by have := pow_small hn; omega
    refine Ev.step (fun _ => spec_liCounts.l1.eq_2 ..) (ev_pos (by omega) (ev_pos (by omega) (ev_pos (by omega) (ev_call (poIn_eq (by omega)) ?_))))
    rw [wrap_succ (by omega)]
    have hstep := cF_succ p F s i
    by_cases hb : s.testBit i = true
    · refine ev_pos hb ?_
      have hc : ¬ (cT p s i = true) := by unfold cT; rw [hb]; simp
      rw [if_neg hc] at hstep
      exact liC_l1 p hn hF hs d (i + 1) X (by omega) hX (by rw [hstep]; exact hv) hK
    · refine ev_neg hb ?_
      have hb : s.testBit i = false := by simpa using hb
      have hor := or_gt (show i < p.length by omega) (show s < 2 ^ p.length by omega) hb
      have hi63 : (2 : Nat) ^ i < 2 ^ 63 := Nat.pow_lt_pow_right (by decide) (by omega)
      by_cases hz : Go.bits .andNot .i64 (rd p (i : Int)) (s : Int) = 0
      · have hc : cT p s i = true := by unfold cT; rw [hb, decide_eq_true hz]; rfl
        rw [if_pos hc] at hstep
        have eo : Go.bits .or .i64 (s : Int) (shl .i64 1 (i : Int)) = ((s ||| 2 ^ i : Nat) : Int) := by rw [shl_one (by omega), bits_or (by omega) hi63]
        have hl := hX.len
        refine ev_pos hz (ev_pos (by omega) (ev_pos (by omega) ?_))
        rw [eo]
        refine ev_pos (by omega) (ev_pos (by omega) ?_)
        rw [rd_getD, rd_getD, Int.toNat_natCast, hv, hX.up _ hor.1 (by omega)]
        exact liC_l1 p hn hF hs d (i + 1) _ (by omega) (hX.set _) (by rw [getD_set_same (by omega), hstep]) hK
      · have hc : ¬ (cT p s i = true) := by unfold cT; rw [decide_eq_false hz]; simp
        rw [if_neg hc] at hstep
        refine ev_neg hz ?_
        exact liC_l1 p hn hF hs d (i + 1) X (by omega) hX (by rw [hstep]; exact hv) hK
theorem liC_end (p : List Int) {F : Nat} {X : List Int} (hl : X.length = F + 1) (h : ∀ t, t ≤ F → X.getD t 0 = cN p F (F + 1) t) : X = cL p F (F + 1) 0 := by
  refine List.ext_getElem (by rw [hl, cL_len]) (fun i h1 h2 => ?_)
  have a := h i (by omega)
  have b := cL_get p F (F + 1) 0 i (by omega)
  rw [Nat.zero_add] at b
  rw [← b] at a
  simpa [List.getD_eq_getElem?_getD, h1, h2] using a
theorem liC_l0 (p : List Int) (hn : p.length ≤ 10) {F : Nat} (hF : F = 2 ^ p.length - 1) : ∀ (s : Nat) (X : List Int), s < F → CI p F X s → X.getD s 0 = 0 → Ev (fun k => spec_liCounts.l0 k X (s : Int) p) (cL p F (F + 1) 0)
  | 0, X, hs, hX, h0 => by
    refine Ev.step (fun _ => spec_liCounts.l0.eq_2 ..) (ev_pos (by omega) ?_)
    refine liC_l1 p hn hF hs p.length 0 X (by omega) hX (by rw [h0]; rfl) (fun X' hX' hv => ?_)
    refine Ev.step (fun _ => spec_liCounts.l0.eq_2 ..) (ev_neg (by show ¬ (wrap64 (-1) ≥ 0); rw [wrap_id (by omega) (by omega)]; omega) ?_)
    rw [liC_end p hX'.len (fun t ht => by
      rcases Nat.eq_zero_or_pos t with e | e
      · rw [e]; exact hv
      · exact hX'.up t e ht)]
    exact Ev.now _
  | s + 1, X, hs, hX, h0 => by
    have hF10 : F < 1024 := by have := pow_small hn; omega
    refine Ev.step (fun _ => spec_liCounts.l0.eq_2 ..) (ev_pos (by omega) ?_)
    refine liC_l1 p hn hF hs p.length 0 X (by omega) hX (by rw [h0]; rfl) (fun X' hX' hv => ?_)
    rw [show wrap64 (((s + 1 : Nat) : Int) - 1) = (s : Int) by rw [show ((s + 1 : Nat) : Int) - 1 = (s : Int) by omega]; exact wrap_id (by omega) (by omega)]
    refine liC_l0 p hn hF s X' (by omega) ⟨hX'.len, fun t h1 h2 => ?_, fun t h1 => hX'.low t (by omega)⟩ (hX'.low s (by omega))
    rcases Nat.eq_or_lt_of_le (show s + 1 ≤ t by omega) with e | e
    · rw [← e]; exact hv
    · exact hX'.up t e h2
theorem liCounts_ev (p : List Int) (h1 : 1 ≤ p.length) (hn : p.length ≤ 10) {F : Nat} (hF : F = 2 ^ p.length - 1) : Ev (fun k => spec_liCounts.f k p) (cL p F (F + 1) 0) := by
  have hp := pow_small hn
  have h2 : 2 ^ 1 ≤ 2 ^ p.length := Nat.pow_le_pow_right (by decide) h1
  have es := shl_one (i := p.length) (by omega)
  refine ev_pos (by rw [es]; omega) (ev_pos (by rw [es]; omega) (ev_call rfl ?_))
  rw [es]
  rw [show wrap64 (((2 ^ p.length : Nat) : Int) - 1) = ((F : Nat) : Int) by rw [wrap_id (by omega) (by omega)]; omega, show wrap64 (((2 ^ p.length : Nat) : Int) - 2) = ((F - 1 : Nat) : Int) by rw [wrap_id (by omega) (by omega)]; omega, Int.toNat_natCast, Int.toNat_natCast]
  refine ev_pos (by omega) (ev_pos (by rw [List.length_replicate]; omega) ?_)
  have hl : (List.replicate (2 ^ p.length) (0 : Int)).length = F + 1 := by rw [List.length_replicate]; omega
  refine liC_l0 p hn hF (F - 1) _ (by omega) ⟨by rw [List.length_set]; exact hl, fun t h3 h4 => ?_, fun t h3 => ?_⟩ ?_
  · have : t = F := by omega
    subst this
    rw [getD_set_same (by omega), cN, if_pos rfl]
  · rw [getD_set_ne (by omega)]; simp [List.getD_eq_getElem?_getD, List.getElem?_replicate]; split <;> rfl
  · rw [getD_set_ne (by omega)]; simp [List.getD_eq_getElem?_getD, List.getElem?_replicate]; split <;> rfl
def liA (p : List Int) : Option (List (List Int) × Bool) := if 1 ≤ p.length ∧ p.length ≤ 10 then (if rd (cL p (2 ^ p.length - 1) (2 ^ p.length - 1 + 1) 0) 0 > 500 then some ([], false) else spec_liAll.l0 1200 (cL p (2 ^ p.length - 1) (2 ^ p.length - 1 + 1) 0) ([] : List (List Int)) 0 p) else none
theorem liAll_ev {p : List Int} {r : List (List Int) × Bool} (h : liA p = some r) : Ev (fun k => spec_liAll.f k p) r := by
  unfold liA at h
  split at h
  · rename_i hc
    refine Ev.bind (liCounts_ev p hc.1 hc.2 rfl) (ev_pos (by rw [cL_len]; omega) ?_)
    split at h
    · rename_i h5; cases h; exact ev_pos h5 (Ev.now _)
    · rename_i h5; refine ev_neg h5 (Ev.of (fun k => spec_liAll.mono_l k _ _ _ _) h)
  · cases h
theorem sorted_unique : ∀ {l r : List Int}, l.Pairwise (· ≤ ·) → r.Pairwise (· ≤ ·) → l.Perm r → l = r
  | [], r, _, _, hp => hp.nil_eq
  | a :: l, [], _, _, hp => absurd hp.symm.nil_eq (by simp)
  | a :: l, b :: r, hl, hr, hp => by
    rw [List.pairwise_cons] at hl hr
    have h1 : a ∈ b :: r := hp.mem_iff.mp List.mem_cons_self
    have h2 : b ∈ a :: l := hp.mem_iff.mpr List.mem_cons_self
    have e : a = b := by
      rcases List.mem_cons.mp h1 with e | h1
      · exact e
      · rcases List.mem_cons.mp h2 with e | h2
        · exact e.symm
        · have := hl.1 b h2
          have := hr.1 a h1
          omega
    subst e
    rw [sorted_unique hl.2 hr.2 (List.Perm.cons_inv hp)]
theorem sort_sorted (l : List Int) : (impl_sorted.sort l).Pairwise (· ≤ ·) := by
  unfold impl_sorted.sort
  have h := List.pairwise_mergeSort (le := fun x y : Int => decide (x ≤ y)) (fun a b c h1 h2 => by rw [decide_eq_true_eq] at h1 h2 ⊢; omega) (fun a b => by rw [Bool.or_eq_true, decide_eq_true_eq, decide_eq_true_eq]; omega) l
  exact h.imp (fun h => by rwa [decide_eq_true_eq] at h)
theorem sort_perm (l : List Int) : (impl_sorted.sort l).Perm l := List.mergeSort_perm l _
theorem sort_eq {l r : List Int} (hs : r.Pairwise (· ≤ ·)) (hp : r.Perm l) : impl_sorted.sort l = r := sorted_unique (sort_sorted l) hs ((sort_perm l).trans hp.symm)
theorem sorted_eq {l : List Int} (h : l.length ≤ 100000) : impl_sorted.f l = some (impl_sorted.sort l) := if_pos (by omega)
def stabG (n l : Int) : Int := wrap64 (Int.tdiv n l)
theorem stab_l0 (n : Int) (ls : List Int) (hz : ∀ l ∈ ls, l ≠ 0) (hl : ls.length ≤ 1000) : ∀ (d i : Nat) (acc : List Int), i + d = ls.length → acc.length = i →
    Ev (fun k => impl_stabilizers.l0 k n acc ls (ls.length : Int) (i : Int)) (impl_sorted.sort (acc ++ (ls.drop i).map (stabG n)))
  | 0, i, acc, h, ha => by
    refine Ev.step (fun _ => impl_stabilizers.l0.eq_2 ..) (ev_neg (by omega) ?_)
    rw [List.drop_of_length_le (by omega), List.map_nil, List.append_nil]
    exact ev_call (sorted_eq (by omega)) (Ev.now _)
  | d + 1, i, acc, h, ha => by
    have hi : i < ls.length := by omega
    refine Ev.step (fun _ => impl_stabilizers.l0.eq_2 ..) (ev_pos (by omega) (ev_pos (by omega) (ev_pos (by omega) ?_)))
    rw [rd_get hi, List.drop_eq_getElem_cons hi, List.map_cons, wrap_succ (by omega)]
    refine ev_neg (hz _ (List.getElem_mem hi)) (ev_pos (by omega) ?_)
    have := stab_l0 n ls hz hl d (i + 1) (acc ++ [stabG n ls[i]]) (by omega) (by rw [List.length_append, List.length_singleton]; omega)
    rw [List.append_assoc] at this
    exact this
def upB : List Int → Bool
  | [] => true
  | [_] => true
  | a :: b :: l => decide (a ≤ b) && upB (b :: l)
theorem upB_sorted : ∀ l : List Int, upB l = true → l.Pairwise (· ≤ ·)
  | [], _ => List.Pairwise.nil
  | [a], _ => List.pairwise_singleton _ a
  | a :: b :: l, h => by
    unfold upB at h
    rw [Bool.and_eq_true, decide_eq_true_eq] at h
    have ih := upB_sorted (b :: l) h.2
    refine List.pairwise_cons.mpr ⟨fun c hc => ?_, ih⟩
    rcases List.mem_cons.mp hc with e | hc
    · omega
    · have := (List.pairwise_cons.mp ih).1 c hc
      omega
def rankM (p now : List Int) : Option (Int × Bool) := (spec_poGood.f 1200 p).bind fun g => if g = true then (spec_liIs.f 1200 p now).bind fun u => if u = true then (if 1 ≤ p.length ∧ p.length ≤ 10 then spec_RankLinear.l0 1200 (cL p (2 ^ p.length - 1) (2 ^ p.length - 1 + 1) 0) 0 0 now (now.length : Int) 0 p else none) else none else none
theorem rankM_ev {p now : List Int} {t : Int × Bool} (h : rankM p now = some t) : Ev (fun k => spec_RankLinear.f k p now) t := by
  unfold rankM at h
  obtain ⟨g, hg, h⟩ := Option.bind_eq_some_iff.mp h
  split at h
  · rename_i e; subst e
    obtain ⟨u, hu, h⟩ := Option.bind_eq_some_iff.mp h
    split at h
    · rename_i e; subst e
      split at h
      · rename_i hc
        exact Ev.bind (Ev.of (spec_poGood.mono _) hg) (ev_pos rfl (Ev.bind (Ev.of (spec_liIs.mono _ _) hu) (Ev.step (fun _ => spec_RankLinear.j0.eq_2 ..) (ev_neg (by simp) (Ev.bind (liCounts_ev p hc.1 hc.2 rfl) (Ev.of (fun k => (spec_RankLinear.mono_l k).2.1 _ _ _ _ _ _ _) h))))))
      · cases h
    · cases h
  · cases h
def innM (p x : List Int) : Nat → List Int → Nat → List Int → Option (Nat × List Int)
  | 0, _, _, _ => none
  | q + 1, now, n, seen => (if n = 0 then some false else spec_l1Same.f 1200 now x).bind fun b => if b = true then some (n, seen) else (rankM p now).bind fun t => if seen.length < 17592186044416 ∧ n < 1000000 then (spec_liPromote.f 1200 p now 1).bind fun y => innM p x q y (n + 1) (seen ++ [t.1]) else none
theorem innM_ok {p x : List Int} : ∀ (f : Nat) (now : List Int) (n : Nat) (seen : List Int) (r : Nat × List Int), innM p x f now n seen = some r → ∃ K, ∀ k q, K ≤ k → K ≤ q → spec_PromotionStabilizers.inn k p x q now n seen = some r
  | 0, _, _, _, _, h => by cases h
  | f + 1, now, n, seen, r, h => by
    rw [innM] at h
    obtain ⟨b, hb, h⟩ := Option.bind_eq_some_iff.mp h
    have hB : ∃ K, ∀ k, K ≤ k → (if n = 0 then some false else spec_l1Same.f k now x) = some b := by
      by_cases e : n = 0
      · rw [if_pos e] at hb; exact ⟨0, fun k _ => by rw [if_pos e]; exact hb⟩
      · rw [if_neg e] at hb
        obtain ⟨K, hK⟩ := Ev.of (spec_l1Same.mono now x) hb
        exact ⟨K, fun k hk => by rw [if_neg e]; exact hK k hk⟩
    obtain ⟨K1, h1⟩ := hB
    by_cases e : b = true
    · rw [if_pos e] at h
      refine ⟨K1 + 1, fun k q hk hq => ?_⟩
      obtain ⟨q, rfl⟩ : ∃ m, q = m + 1 := ⟨q - 1, by omega⟩
      rw [spec_PromotionStabilizers.inn, h1 k (by omega), Option.bind_some, if_pos e]
      exact h
    · rw [if_neg e] at h
      obtain ⟨t, ht, h⟩ := Option.bind_eq_some_iff.mp h
      obtain ⟨K2, h2⟩ := rankM_ev ht
      split at h
      · rename_i hc
        obtain ⟨y, hy, h⟩ := Option.bind_eq_some_iff.mp h
        obtain ⟨K3, h3⟩ := Ev.of (spec_liPromote.mono p now 1) hy
        obtain ⟨K4, h4⟩ := innM_ok f y (n + 1) (seen ++ [t.1]) r h
        refine ⟨K1 + K2 + K3 + K4 + 1, fun k q hk hq => ?_⟩
        obtain ⟨q, rfl⟩ : ∃ m, q = m + 1 := ⟨q - 1, by omega⟩
        have h2' : spec_RankLinear.f k p now = some t := h2 k (by omega)
        have h3' : spec_liPromote.f k p now 1 = some y := h3 k (by omega)
        rw [spec_PromotionStabilizers.inn, h1 k (by omega), Option.bind_some, if_neg e, h2', Option.bind_some, if_pos hc, h3', Option.bind_some]
        exact h4 k q (by omega) (by omega)
      · cases h
def goM (p : List Int) (ab : Int) : List (List Int) → Nat → List Int → List Int → Option (List Int)
  | [], _, out, _ => some out
  | x :: ws, i, out, seen => (spec_l1Has.f 1200 seen (i : Int)).bind fun h => if h = true then goM p ab ws (i + 1) out seen else (innM p x 100 x 0 seen).bind fun t => if 1 ≤ t.1 then (spec_svPut.f 1200 out (ab / (t.1 : Int))).bind fun o => goM p ab ws (i + 1) o t.2 else none
theorem goM_ok {p : List Int} {ab : Int} : ∀ (ws : List (List Int)) (i : Nat) (out seen o : List Int), goM p ab ws i out seen = some o → Ev (fun k => spec_PromotionStabilizers.go k p ab ws i out seen) o
  | [], i, out, seen, o, h => by
    rw [goM] at h
    exact ⟨0, fun k _ => by show spec_PromotionStabilizers.go k p ab [] i out seen = some o; rw [spec_PromotionStabilizers.go]; exact h⟩
  | x :: ws, i, out, seen, o, h => by
    rw [goM] at h
    obtain ⟨b, hb, h⟩ := Option.bind_eq_some_iff.mp h
    obtain ⟨K1, h1⟩ := Ev.of (spec_l1Has.mono seen (i : Int)) hb
    by_cases e : b = true
    · rw [if_pos e] at h
      obtain ⟨K2, h2⟩ := goM_ok ws (i + 1) out seen o h
      refine ⟨K1 + K2, fun k hk => ?_⟩
      have h1' : spec_l1Has.f k seen (i : Int) = some b := h1 k (by omega)
      show spec_PromotionStabilizers.go k p ab (x :: ws) i out seen = some o
      rw [spec_PromotionStabilizers.go, h1', Option.bind_some, if_pos e]
      exact h2 k (by omega)
    · rw [if_neg e] at h
      obtain ⟨t, ht, h⟩ := Option.bind_eq_some_iff.mp h
      obtain ⟨K2, h2⟩ := innM_ok 100 x 0 seen t ht
      split at h
      · rename_i hc
        obtain ⟨o1, ho, h⟩ := Option.bind_eq_some_iff.mp h
        obtain ⟨K3, h3⟩ := Ev.of (spec_svPut.mono out (ab / (t.1 : Int))) ho
        obtain ⟨K4, h4⟩ := goM_ok ws (i + 1) o1 t.2 o h
        refine ⟨K1 + K2 + K3 + K4, fun k hk => ?_⟩
        have h1' : spec_l1Has.f k seen (i : Int) = some b := h1 k (by omega)
        have h3' : spec_svPut.f k out (ab / (t.1 : Int)) = some o1 := h3 k (by omega)
        show spec_PromotionStabilizers.go k p ab (x :: ws) i out seen = some o
        rw [spec_PromotionStabilizers.go, h1', Option.bind_some, if_neg e, h2 k k (by omega) (by omega), Option.bind_some, if_pos hc, h3', Option.bind_some]
        exact h4 k (by omega)
      · cases h
def psB (a b : Int) : Bool := match spec_poRectangle.f 1200 a b with
  | none => false
  | some p => match liA p, impl_promotionLengths.f 1200 a b with
    | some (all, bA), some ls => (match goM p (a * b) all 0 [] [] with
      | none => false
      | some o => (ls.all fun l => l != 0) && decide (ls.length ≤ 1000) && upB o && o.isPerm (ls.map (stabG (wrap64 (a * b)))) && decide (all.length ≤ 1000000))
    | _, _ => false
theorem ps1_1 : psB 1 1 = true := by decide +kernel
theorem ps1_2 : psB 1 2 = true := by decide +kernel
theorem ps1_3 : psB 1 3 = true := by decide +kernel
theorem ps1_4 : psB 1 4 = true := by decide +kernel
theorem ps1_5 : psB 1 5 = true := by decide +kernel
theorem ps1_6 : psB 1 6 = true := by decide +kernel
theorem ps1_7 : psB 1 7 = true := by decide +kernel
theorem ps1_8 : psB 1 8 = true := by decide +kernel
theorem ps1_9 : psB 1 9 = true := by decide +kernel
theorem ps1_10 : psB 1 10 = true := by decide +kernel
theorem ps2_1 : psB 2 1 = true := by decide +kernel
theorem ps2_2 : psB 2 2 = true := by decide +kernel
theorem ps2_3 : psB 2 3 = true := by decide +kernel
theorem ps2_4 : psB 2 4 = true := by decide +kernel
theorem ps2_5 : psB 2 5 = true := by decide +kernel
theorem ps3_1 : psB 3 1 = true := by decide +kernel
theorem ps3_2 : psB 3 2 = true := by decide +kernel
theorem ps3_3 : psB 3 3 = true := by decide +kernel
theorem ps4_1 : psB 4 1 = true := by decide +kernel
theorem ps4_2 : psB 4 2 = true := by decide +kernel
theorem ps5_1 : psB 5 1 = true := by decide +kernel
theorem ps5_2 : psB 5 2 = true := by decide +kernel
theorem ps6_1 : psB 6 1 = true := by decide +kernel
theorem ps7_1 : psB 7 1 = true := by decide +kernel
theorem ps8_1 : psB 8 1 = true := by decide +kernel
theorem ps9_1 : psB 9 1 = true := by decide +kernel
theorem ps10_1 : psB 10 1 = true := by decide +kernel
theorem ps_of {a b : Int} (h : sidesB a b = true) : psB a b = true := by
  unfold sidesB at h
  rw [Bool.and_eq_true, Bool.and_eq_true, inB_iff, inB_iff, decide_eq_true_eq] at h
  obtain ⟨⟨h1, h2⟩, h3⟩ := h
  obtain rfl | rfl | rfl | rfl | rfl | rfl | rfl | rfl | rfl | rfl : a = 1 ∨ a = 2 ∨ a = 3 ∨ a = 4 ∨ a = 5 ∨ a = 6 ∨ a = 7 ∨ a = 8 ∨ a = 9 ∨ a = 10 := by omega
  · obtain rfl | rfl | rfl | rfl | rfl | rfl | rfl | rfl | rfl | rfl : b = 1 ∨ b = 2 ∨ b = 3 ∨ b = 4 ∨ b = 5 ∨ b = 6 ∨ b = 7 ∨ b = 8 ∨ b = 9 ∨ b = 10 := by omega
    · exact ps1_1
    · exact ps1_2
    · exact ps1_3
    · exact ps1_4
    · exact ps1_5
    · exact ps1_6
    · exact ps1_7
    · exact ps1_8
    · exact ps1_9
    · exact ps1_10
  · obtain rfl | rfl | rfl | rfl | rfl : b = 1 ∨ b = 2 ∨ b = 3 ∨ b = 4 ∨ b = 5 := by omega
    · exact ps2_1
    · exact ps2_2
    · exact ps2_3
    · exact ps2_4
    · exact ps2_5
  · obtain rfl | rfl | rfl : b = 1 ∨ b = 2 ∨ b = 3 := by omega
    · exact ps3_1
    · exact ps3_2
    · exact ps3_3
  · obtain rfl | rfl : b = 1 ∨ b = 2 := by omega
    · exact ps4_1
    · exact ps4_2
  · obtain rfl | rfl : b = 1 ∨ b = 2 := by omega
    · exact ps5_1
    · exact ps5_2
  · obtain rfl : b = 1 := by omega
    exact ps6_1
  · obtain rfl : b = 1 := by omega
    exact ps7_1
  · obtain rfl : b = 1 := by omega
    exact ps8_1
  · obtain rfl : b = 1 := by omega
    exact ps9_1
  · obtain rfl : b = 1 := by omega
    exact ps10_1
theorem agree_FnExactPromotionStabilizers (a b : Int) : ∃ r : List Int × Bool, r.1.length ≤ 1000 ∧ Ev (fun k => spec_PromotionStabilizers.f k a b) r ∧ Ev (fun k => impl_PromotionStabilizers.f k a b) r := by
  by_cases hs : sidesB a b = true
  · have hg := ps_of hs
    have hab := hs
    unfold sidesB at hab
    rw [Bool.and_eq_true, Bool.and_eq_true, inB_iff, inB_iff] at hab
    unfold psB at hg
    split at hg
    · cases hg
    · rename_i p hp
      split at hg
      · rename_i all bA ls hA h2
        split at hg
        · cases hg
        · rename_i o ho
          rw [Bool.and_eq_true, Bool.and_eq_true, Bool.and_eq_true, Bool.and_eq_true, decide_eq_true_eq, decide_eq_true_eq, List.all_eq_true, List.isPerm_iff] at hg
          obtain ⟨⟨⟨⟨g2, g3⟩, g4⟩, g5⟩, g6⟩ := hg
          have e : impl_sorted.sort (ls.map (stabG (wrap64 (a * b)))) = o := sort_eq (upB_sorted _ g4) g5
          refine ⟨(o, true), ?_, ev_call (shSides_eq a b) (ev_pos hs (ev_pos (by omega) (Ev.bind (Ev.of (spec_poRectangle.mono _ _) hp) (Ev.bind (liAll_ev hA) (ev_pos g6 (Ev.bind (goM_ok _ _ _ _ _ ho) (Ev.now _))))))), ev_call (areSides_eq a b) (ev_pos hs (Ev.bind (Ev.of (impl_promotionLengths.mono a b) h2) ?_))⟩
          · rw [g5.length_eq, List.length_map]; exact g3
          · have hl0 := stab_l0 (wrap64 (a * b)) ls (fun l hl => by have := g2 l hl; rwa [bne_iff_ne] at this) g3 ls.length 0 [] (by omega) rfl
            rw [List.drop_zero, List.nil_append, e] at hl0
            exact Ev.bind hl0 (Ev.now _)
      · cases hg
  · exact ⟨([], false), Nat.zero_le _, ev_call (shSides_eq a b) (ev_neg hs (Ev.now _)), ev_call (areSides_eq a b) (ev_neg hs (Ev.now _))⟩
end Go.Proofs.Ytldbabadbggleaa.M
end
section
namespace Go.Proofs.Ytldbabadbggleaa.M
open Go.RowKit Go.Proofs.YtldbabadbggleaaW.PrintWords Go.Proofs.YtldbabadbggleaaW.PrintLast Go.Proofs.YtldbabadbggleaaW.PrintMore Go.Proofs.Ytldbabadbggleaa.L
theorem eqIntS_refl (a : List Int) (hl : a.length ≤ 9223372036854775806) : Ev (fun k => laws_eqIntS.f k a a) true := by simpa using eqIntS_ev a a hl
end Go.Proofs.Ytldbabadbggleaa.M
end
section
namespace Go.Proofs.Ytldbabadbggleaa.Pure
open Go.RowKit Go.Proofs.YtldbabadbggleaaW.PrintWords Go.Proofs.YtldbabadbggleaaW.PrintLast Go.Proofs.YtldbabadbggleaaW.PrintMore Go.Proofs.Ytldbabadbggleaa.L Go.Proofs.Ytldbabadbggleaa.M
theorem FnExactPromotionStabilizers : laws_FnExactPromotionStabilizers.Pure2 := by
  intro a0 a1 w0 w1
  refine Ev.rounds ?_
  unfold laws_FnExactPromotionStabilizers.f
  obtain ⟨r, hr, hs, hi⟩ := agree_FnExactPromotionStabilizers a0 a1
  have Er := eqIntS_refl r.1 (by omega)
  have Mr := markIntS_ev r.1 1 (by omega) (by omega)
  have Hr := heldIntS_ev 1 r.1.length (by omega) (by omega)
  repeat' first
    | with_reducible exact Ev.now true
    | with_reducible refine Ev.bind hs ?_
    | with_reducible refine Ev.bind hi ?_
    | with_reducible refine Ev.bind Er ?_
    | with_reducible refine Ev.bind Mr ?_
    | with_reducible refine Ev.bind Hr ?_
    | with_reducible refine Ev.step (fun _ => laws_FnExactPromotionStabilizers.j0.eq_2 ..) ?_
    | with_reducible refine Ev.step (fun _ => laws_FnExactPromotionStabilizers.j1.eq_2 ..) ?_
    | with_reducible refine ev_pos rfl ?_
    | (with_reducible refine ev_neg ?h ?_; case h => first | (simp; done) | omega | (simp only; omega) | (simp; omega))
end Go.Proofs.Ytldbabadbggleaa.Pure
end
section
namespace Go.Proofs.Ytldbabadbggleaa.R
open Go.ChangeShapes Go.WideShapes Go.ChangeAt Go.RowKit
open Go.ChangeMaps (open_string shut_string)
set_option linter.unusedVariables false
def IsRow (k : IntKind) (w : World) (a : Option Addr) (len cap : Nat) (zs : List Int) : Prop :=
  (a = none ∧ len = 0 ∧ cap = 0 ∧ zs = []) ∨
  ∃ x, a = some x ∧ len ≤ cap ∧ cap ≤ maxLen ∧ zs.length = cap ∧ (∀ i, i < zs.length → w.cell? (x.add i) = some (.int k (zs.getD i 0))) ∧ ∀ n ∈ zs, (Lit.int k n).wf = true
variable {H : Type} {enc : TypeId × Value → H} {P : Program} {W : World} {base : Nat} {ps : List MemPlace}
theorem row_of {t e : TypeId} {k : IntKind} {fuel : Nat} {c : Value} {y : DataW H × List MemPlace} (hu : P.underlying t = some (.slice e)) (he : P.underlying e = some (.int k)) (hc : P.cellsOf e = 1)
    (hf : DataW.trod enc P W 0 (fun _ => true) true fuel t [c] = some y) : ∃ a len cap zs, c = .slice a len cap ∧ IsRow k W a len cap zs := by
  rcases open_ints hu he hc hf with ⟨hcs, _⟩ | ⟨x, l, c', zs, hcs, _, hl, hm, hz, _, hcell, hwz⟩
  · simp only [List.cons.injEq, and_true] at hcs
    subst hcs
    exact ⟨_, _, _, [], rfl, .inl ⟨rfl, rfl, rfl, rfl⟩⟩
  · simp only [List.cons.injEq, and_true] at hcs
    subst hcs
    exact ⟨_, _, _, zs, rfl, .inr ⟨_, rfl, hl, hm, by simpa using hz, hcell, hwz⟩⟩
theorem array1 {α : Type} {cs : Array α} (h : cs.size = 1) : ∃ c0, cs = #[c0] := by
  obtain ⟨l⟩ := cs
  match l, h with
  | [c0], _ => exact ⟨c0, rfl⟩
theorem open_poset {r : Reach} {t e : TypeId} {f : Field} {v : Value} {d : DataW H} (hs : P.underlying t = some (.struct #[f])) (ho : f.offset = 0) (hC : P.cellsOf t = 1) (hfc : P.cellsOf f.type = 1) (hu : P.underlying f.type = some (.slice e)) (he : P.underlying e = some (.int .i64)) (hc : P.cellsOf e = 1)
    (hv : Value.okWide P W r base t v) (h : DataW.Trod enc P W 0 (fun _ => true) true t v d ps) : ∃ a len cap zs, v = .agg #[.slice a len cap] ∧ IsRow .i64 W a len cap zs := by
  obtain ⟨cs, rfl, hsz⟩ := okWide_struct hs hv
  obtain ⟨c0, rfl⟩ := array1 (hsz.trans hC)
  obtain ⟨fuel, hf⟩ := h
  obtain ⟨y0, n, _, _, h0⟩ := trod_struct1 hs hf
  rw [ho, hfc] at h0
  obtain ⟨a, len, cap, zs, rfl, hz⟩ := row_of hu he hc (by simpa [Value.cells] using h0)
  exact ⟨a, len, cap, zs, rfl, hz⟩
theorem open_desk {r : Reach} {t e : TypeId} {f f1 g : Field} {v : Value} {d : DataW H} (hs : P.underlying t = some (.struct #[f, f1])) (ho : f.offset = 0) (ho1 : f1.offset = 1) (hC : P.cellsOf t = 2) (hfc : P.cellsOf f.type = 1) (hfc1 : P.cellsOf f1.type = 1)
    (hs2 : P.underlying f.type = some (.struct #[g])) (hgo : g.offset = 0) (hgc : P.cellsOf g.type = 1) (hu : P.underlying g.type = some (.slice e)) (he : P.underlying e = some (.int .i64)) (hc : P.cellsOf e = 1) (hi : P.underlying f1.type = some (.int .i64))
    (hv : Value.okWide P W r base t v) (h : DataW.Trod enc P W 0 (fun _ => true) true t v d ps) : ∃ a len cap zs x, v = .agg #[.slice a len cap, .int .i64 x] ∧ IsRow .i64 W a len cap zs ∧ (Lit.int .i64 x).wf = true := by
  obtain ⟨cs, rfl, hsz⟩ := okWide_struct hs hv
  obtain ⟨c0, c1, rfl⟩ := Joins.array2 (hsz.trans hC)
  obtain ⟨fuel, hf⟩ := h
  obtain ⟨y0, y1, n, _, _, h0, h1⟩ := trod_struct2 hs hf
  rw [ho, hfc] at h0
  rw [ho1, hfc1] at h1
  obtain ⟨z0, m, _, _, h00⟩ := trod_struct1 hs2 h0
  rw [hgo, hgc] at h00
  obtain ⟨a, len, cap, zs, rfl, hz⟩ := row_of hu he hc (by simpa [Value.cells] using h00)
  obtain ⟨x, e0, e1, wx⟩ := DataW.trod_int hi h1
  simp [Value.cells] at e0
  subst e0
  exact ⟨a, len, cap, zs, x, rfl, hz, wx⟩
end Go.Proofs.Ytldbabadbggleaa.R
end
