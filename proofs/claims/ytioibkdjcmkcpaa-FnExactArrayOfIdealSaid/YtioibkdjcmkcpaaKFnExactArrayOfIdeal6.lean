/- Laws about the given program: the law FnExactArrayOfIdeal answers true for every input that its row lets in; no condition is added to the given statement. Contracts of the Go functions that it reaches, and the plain proof over lists. -/
import Derived.Below
import Derived.ChangeOld
import Derived.Lib.SmallJoins
import Derived.OpenShut
import Derived.ProofKit
import Derived.ShutString
import Derived.SizedLaws
import Derived.Test.YtioibkdjcmkcpaaRows
import Derived.WalkKit
import Derived.Test.YtioibkdjcmkcpaaW0
import Derived.Test.YtioibkdjcmkcpaaW1
import Derived.Test.YtioibkdjcmkcpaaKFnExactArrayOfIdeal0
import Derived.Test.YtioibkdjcmkcpaaKFnExactArrayOfIdeal1
import Derived.Test.YtioibkdjcmkcpaaKFnExactArrayOfIdeal2
import Derived.Test.YtioibkdjcmkcpaaKFnExactArrayOfIdeal3
import Derived.Test.YtioibkdjcmkcpaaKFnExactArrayOfIdeal4
import Derived.Test.YtioibkdjcmkcpaaKFnExactArrayOfIdeal5
section
namespace Go.Proofs.Ytioibkdjcmkcpaa.L
open Go.RowKit Go.Proofs.YtioibkdjcmkcpaaW.PrintWords Go.Proofs.YtioibkdjcmkcpaaW.PrintLast Go.Proofs.YtioibkdjcmkcpaaW.PrintMore
attribute [local go_sem] max2_int min2_int max_two min_two max_three min_three max_four min_four
set_option linter.unusedVariables false
set_option linter.unusedSimpArgs false
def spec_rvDual.l0 : Nat → Int → Int → Int → Int → Int → Option (Int)
  | 0, _, _, _, _, _ => none
  | k + 1, x1, x5, x6, x13, x14 => if x14 < x13 then ((spec_poIn.f x1 x14).bind fun t493 => (if t493 = true then (spec_rvDual.l0 k x1 x5 x6 x13 (wrap64 (x14 + 1))) else (if 0 ≤ (wrap64 ((wrap64 (x5 - 1)) - x14)) then (spec_rvDual.l0 k x1 x5 (Go.bits .or .i64 x6 (shl .i64 1 (wrap64 ((wrap64 (x5 - 1)) - x14)))) x13 (wrap64 (x14 + 1))) else (none)))) else (some x6)
def spec_rvDual.f (k : Nat) (l0_0 : List Int) (a1 : Int) : Option (Int) := spec_rvDual.l0 k a1 (l0_0.length : Int) 0 (l0_0.length : Int) 0
theorem spec_rvDual.mono_l : ∀ k, (∀ y0 y1 y2 y3 y4, LeO (spec_rvDual.l0 k y0 y1 y2 y3 y4) (spec_rvDual.l0 (k + 1) y0 y1 y2 y3 y4))
  | 0 => fun _ _ _ _ _ r h => by simp [spec_rvDual.l0] at h
  | k + 1 => by
    have ih0 := spec_rvDual.mono_l k
    · intro y0 y1 y2 y3 y4
      unfold spec_rvDual.l0
      repeat' first
      | (with_reducible exact ih0 _ _ _ _ _)
      | (with_reducible exact LeO.refl _)
      | (with_reducible exact LeO.none _)
      | (with_reducible refine LeO.ite ?_ ?_)
      | (with_reducible refine LeO.bind ?_ (fun _ => ?_))
      | exact ih0 _ _ _ _ _
      | exact LeO.none _
      | refine LeO.ite ?_ ?_
      | refine LeO.bind ?_ (fun _ => ?_)
theorem spec_rvDual.mono : ∀ a0 a1 k, LeO (spec_rvDual.f k a0 a1) (spec_rvDual.f (k + 1) a0 a1) := by
  intro a0 a1 k
  have ih0 := spec_rvDual.mono_l k
  unfold spec_rvDual.f
  repeat' first
      | (with_reducible exact ih0 _ _ _ _ _)
      | (with_reducible exact LeO.refl _)
      | (with_reducible exact LeO.none _)
      | (with_reducible refine LeO.ite ?_ ?_)
      | (with_reducible refine LeO.bind ?_ (fun _ => ?_))
      | exact ih0 _ _ _ _ _
      | exact LeO.none _
      | refine LeO.ite ?_ ?_
      | refine LeO.bind ?_ (fun _ => ?_)
set_option maxHeartbeats 8000000 in
set_option maxRecDepth 100000 in
theorem spec_rvDual.calls (k : Nat) (A0_0 : Option Addr) (c0_0 : Nat) (l0_0 : List Int) (a1 : Int) (r : Int) (w : World) (hr0_0 : Kd.C (Kd.int .i64) w A0_0 l0_0.length l0_0) (hc0_0 : l0_0.length ≤ c0_0) (h : spec_rvDual.f k l0_0 a1 = some r) :
    Calls Try.prog 82 #[.agg #[.slice A0_0 l0_0.length c0_0], .int .i64 a1] w fun e w' => e = .returned (.int .i64 r) ∧ Below w.heap.size w w' := by
  have hu28 := Try.underlying28
  have HR0_0 := Aside0.mk hr0_0
  have HC0_0 := Aside0.mk hc0_0
  clear hr0_0 hc0_0
  have HB := Aside0.mk (Below.refl w.heap.size w)
  have H : (spec_rvDual.l0 k a1 (l0_0.length : Int) 0 (l0_0.length : Int) 0) = some r := h
  clear h
  have H' := Aside0.mk H
  clear H
  go_enter Try.func82, Try.ntmps82
  go_wp2_with (first | ((with_reducible refine gate_dst (N := 2) rfl ?_); refine box_event ?hg (N := 2) ?hd (cs := #[.slice A0_0 l0_0.length c0_0]) (t := 28) ?hr ?_; (case hd => rfl); (case hg => rfl); (case hr => first | (go_simp; done) | (go_simp; rfl)); intro gb492 hg w3 hbox hb; have n0_ := Aside0.mk (below_step (by repeat (first | (with_reducible first | exact HB.out | apply below_alloc | apply pw_below_drewN | apply below_drew1) | exact HB.out)) hb); have n1_ := Aside0.mk (hbox); have n2_ := Aside0.mk ((by rw [hg]; exact (below_size (by repeat (first | (with_reducible first | exact HB.out | apply below_alloc | apply pw_below_drewN | apply below_drew1) | exact HB.out))) : w.heap.size ≤ gb492)); have n3_ := Aside0.mk ((by rw [hg]; exact (below_size (by repeat (first | (with_reducible first | exact HB.out | apply below_alloc | apply pw_below_drewN | apply below_drew1) | exact HB.out))) : w.heap.size ≤ gb492)); clear HB; have HB := n0_; have BK492 := n1_; have GW492 := n2_; have GE492 := n3_; clear n0_ n1_ n2_ n3_; clear hb hbox hg; have hcz4_0 : w3.cell? ⟨gb492, 0, none⟩ = some (.slice A0_0 l0_0.length c0_0) := (blk_cell BK492.out 0).trans rfl; have hfz4_0 := blk_frozen BK492.out 0))
  go_loopg [6, 14] k (fun kq v6 v14 w' => ∃ (x6_1 : Int) (x14_1 : Int), v6 = .int .i64 x6_1 ∧ v14 = .int .i64 x14_1 ∧ Aside0 (spec_rvDual.l0 kq a1 (l0_0.length : Int) x6_1 (l0_0.length : Int) x14_1 = some r) ∧ Aside0 (kq ≤ k) ∧ Aside0 (w'.heap[gb492]? = some (.cells #[(.slice A0_0 l0_0.length c0_0)] 28 (0, 0))) ∧ Aside0 (Below w.heap.size w w'))
  case atStart => exact ⟨(0), (0), (by first | rfl | (simp; done) | (simp [*]; done)), (by first | rfl | (simp; done) | (simp [*]; done)), H', ⟨Nat.le_refl _⟩, ⟨by (with_reducible repeat (first | refine blk_drewN ?_ _ | refine blk_drew ?_ | refine blk_alloc ?_ _)); exact BK492.out⟩, ⟨by repeat (first | (with_reducible first | exact HB.out | apply below_alloc | apply pw_below_drewN | apply below_drew1 | refine below_set ?_ GE492.out) | exact HB.out)⟩⟩
  case round =>
    clear H'
    try clear p2
    try clear hcz4_0
    try clear hfz4_0
    obtain ⟨x6_1, x14_1, rfl, rfl, HA, HK1, BK492, HB⟩ := hrel
    cases gk with
    | zero => exact absurd HA.out (by simp [spec_rvDual.l0])
    | succ k1 =>
      have H := HA.out
      clear HA
      simp only [spec_rvDual.l0] at H
      by_cases c5 : x14_1 < (l0_0.length : Int)
      · rw [if_pos c5] at H
        have c5b0 : decide (x14_1 < (l0_0.length : Int)) = true := decide_eq_true c5
        clear c5
        replace H := Option.bind_eq_some_iff.mp H
        obtain ⟨t493, A60, H⟩ := H
        replace H : (if t493 = true then (spec_rvDual.l0 k1 a1 (l0_0.length : Int) x6_1 (l0_0.length : Int) (wrap64 (x14_1 + 1))) else (if 0 ≤ (wrap64 ((wrap64 ((l0_0.length : Int) - 1)) - x14_1)) then (spec_rvDual.l0 k1 a1 (l0_0.length : Int) (Go.bits .or .i64 x6_1 (shl .i64 1 (wrap64 ((wrap64 ((l0_0.length : Int) - 1)) - x14_1)))) (l0_0.length : Int) (wrap64 (x14_1 + 1))) else (none))) = some r := H
        have A6 := Aside0.mk A60
        clear A60
        by_cases c7 : t493 = true
        · subst c7
          have H1 : (spec_rvDual.l0 k1 a1 (l0_0.length : Int) x6_1 (l0_0.length : Int) (wrap64 (x14_1 + 1))) = some r := by rw [if_pos rfl] at H; exact H
          clear H
          have H := H1
          clear H1
          have H' := Aside0.mk H
          clear H
          go_wp2_with (first | ((with_reducible refine gate_callee (f := 72) rfl ?_); refine goesL_ (some 19) rfl rfl Try.func72 (by kernel_rfl) rfl #[.int .i64 a1, .int .i64 x14_1] rfl (by (try simp only [List.map_toArray, List.map_cons, List.map_nil]); first | done | rfl | (simp only [List.length_drop, List.length_take]; rfl)) ?_; (with_reducible refine (spec_poIn.calls a1 x14_1 true _ A6.out).mono ?_); rintro e w' ⟨rfl, ⟨nd, rfl⟩⟩; refine ⟨_, rfl, ?_⟩))
          go_roundg k1
          case measure => have := HK1.out; omega
          case rel => exact ⟨(x6_1), (wrap64 (x14_1 + 1)), (by first | rfl | (simp; done) | (simp [*]; done)), (by first | rfl | (simp; done) | (simp [*]; done)), H', ⟨by have := HK1.out; omega⟩, ⟨by (with_reducible repeat (first | refine blk_drewN ?_ _ | refine blk_drew ?_ | refine blk_alloc ?_ _)); exact BK492.out⟩, ⟨by repeat (first | (with_reducible first | exact HB.out | apply below_alloc | apply pw_below_drewN | apply below_drew1 | refine below_set ?_ GE492.out) | exact HB.out)⟩⟩
        · replace c7 := Bool.eq_false_iff.mpr c7
          subst c7
          have H1 : (if 0 ≤ (wrap64 ((wrap64 ((l0_0.length : Int) - 1)) - x14_1)) then (spec_rvDual.l0 k1 a1 (l0_0.length : Int) (Go.bits .or .i64 x6_1 (shl .i64 1 (wrap64 ((wrap64 ((l0_0.length : Int) - 1)) - x14_1)))) (l0_0.length : Int) (wrap64 (x14_1 + 1))) else (none)) = some r := by rw [if_neg (show ¬ (false = true) by decide)] at H; exact H
          clear H
          have H := H1
          clear H1
          obtain ⟨ji8, hji8⟩ : ∃ j_ : Int, (wrap64 ((wrap64 ((l0_0.length : Int) - 1)) - x14_1)) = j_ := ⟨_, rfl⟩
          replace H : (if 0 ≤ (ji8) then (spec_rvDual.l0 k1 a1 (l0_0.length : Int) (Go.bits .or .i64 x6_1 (shl .i64 1 (ji8))) (l0_0.length : Int) (wrap64 (x14_1 + 1))) else (none)) = some r := by first | (rw [hji8] at H; exact H) | (simp only [hji8] at H ⊢; exact H)
          (try rw [hji8] at A6)
          have hji8w : (IntKind.i64.wrap ((wrap64 ((l0_0.length : Int) - 1)) - x14_1)) = ji8 := (i64_w _).trans hji8
          by_cases c9 : 0 ≤ (ji8)
          · rw [if_pos c9] at H
            have c9b0 := eq_true c9
            have c9b1 : decide (0 ≤ (ji8)) = true := decide_eq_true c9
            clear c9
            obtain ⟨ji10, hji10⟩ : ∃ j_ : Int, (shl .i64 1 (ji8)) = j_ := ⟨_, rfl⟩
            replace H : (spec_rvDual.l0 k1 a1 (l0_0.length : Int) (Go.bits .or .i64 x6_1 (ji10)) (l0_0.length : Int) (wrap64 (x14_1 + 1))) = some r := by first | (rw [hji10] at H; exact H) | (simp only [hji10] at H ⊢; exact H)
            (try rw [hji10] at A6)
            have hji10_ : (IntKind.i64.wrap (1 * 2 ^ min (ji8).toNat 64)) = ji10 := hji10
            have hji10z : (ji8) ≤ 64 → (IntKind.i64.wrap (1 * 2 ^ (ji8).toNat)) = ji10 := shl_small hji10
            have hji10u : (IntKind.i64.wrap (2 ^ min (ji8).toNat 64)) = ji10 := by have h_ := hji10_; rw [Int.one_mul] at h_; exact h_
            have hji10v : (ji8) ≤ 64 → (IntKind.i64.wrap (2 ^ (ji8).toNat)) = ji10 := fun hle_ => by have h_ := hji10z hle_; rw [Int.one_mul] at h_; exact h_
            have hji10y : (wrap64 (1 * 2 ^ min (ji8).toNat 64)) = ji10 := (i64_w _).symm.trans hji10_
            have hji10x : (ji8) ≤ 64 → (wrap64 (1 * 2 ^ (ji8).toNat)) = ji10 := fun h_ => (i64_w _).symm.trans (hji10z h_)
            have H' := Aside0.mk H
            clear H
            go_wp2_with (first | ((with_reducible refine gate_callee (f := 72) rfl ?_); refine goesL_ (some 19) rfl rfl Try.func72 (by kernel_rfl) rfl #[.int .i64 a1, .int .i64 x14_1] rfl (by (try simp only [List.map_toArray, List.map_cons, List.map_nil]); first | done | rfl | (simp only [List.length_drop, List.length_take]; rfl)) ?_; (with_reducible refine (spec_poIn.calls a1 x14_1 false _ A6.out).mono ?_); rintro e w' ⟨rfl, ⟨nd, rfl⟩⟩; refine ⟨_, rfl, ?_⟩))
            go_roundg k1
            case measure => have := HK1.out; omega
            case rel => exact ⟨(Go.bits .or .i64 x6_1 (ji10)), (wrap64 (x14_1 + 1)), (by first | rfl | (simp; done) | (simp only [← hji10] <;> (first | rfl | simp)) | (simp [*]; done)), (by first | rfl | (simp; done) | (simp [*]; done)), H', ⟨by have := HK1.out; omega⟩, ⟨by (with_reducible repeat (first | refine blk_drewN ?_ _ | refine blk_drew ?_ | refine blk_alloc ?_ _)); exact BK492.out⟩, ⟨by repeat (first | (with_reducible first | exact HB.out | apply below_alloc | apply pw_below_drewN | apply below_drew1 | refine below_set ?_ GE492.out) | exact HB.out)⟩⟩
          · rw [if_neg c9] at H
            exact absurd H (by simp)
      · rw [if_neg c5] at H
        have c5b0 : decide (x14_1 < (l0_0.length : Int)) = false := decide_eq_false c5
        clear c5
        obtain rfl := Option.some.inj H
        go_wp2
        go_ret
        exact ⟨by first | rfl | (simp [errW_none, errW_some] <;> rfl) | (simp [*, errW_none, errW_some] <;> rfl), by repeat (first | (with_reducible first | exact HB.out | apply below_alloc | apply pw_below_drewN | apply below_drew1 | refine below_set ?_ GE492.out) | exact HB.out)⟩
end Go.Proofs.Ytioibkdjcmkcpaa.L
end
section
namespace Go.Proofs.Ytioibkdjcmkcpaa.L
open Go.RowKit Go.Proofs.YtioibkdjcmkcpaaW.PrintWords Go.Proofs.YtioibkdjcmkcpaaW.PrintLast Go.Proofs.YtioibkdjcmkcpaaW.PrintMore
attribute [local go_sem] max2_int min2_int max_two min_two max_three min_three max_four min_four
set_option linter.unusedVariables false
set_option linter.unusedSimpArgs false
def impl_Poset_dualIdeal.l0 : Nat → Int → List Int → Int → Int → List Int → Option (Int)
  | 0, _, _, _, _, _ => none
  | k + 1, x5, x12, x13, x14, x506000 => if x14 < x13 then (if 0 ≤ x14 then (if x14 < (x12.length : Int) then ((impl_Poset_n.f x506000).bind fun t511 => (if 0 ≤ (wrap64 ((wrap64 (t511 - 1)) - (rd x12 x14))) then (impl_Poset_dualIdeal.l0 k (Go.bits .or .i64 x5 (shl .i64 1 (wrap64 ((wrap64 (t511 - 1)) - (rd x12 x14))))) x12 x13 (wrap64 (x14 + 1)) x506000) else (none))) else (none)) else (none)) else (some x5)
def impl_Poset_dualIdeal.f (k : Nat) (l0_0 : List Int) (a1 : Int) : Option (Int) := (impl_Poset_all.f l0_0).bind fun t506 => ((impl_items.f k (Go.bits .andNot .i64 t506 a1)).bind fun t507 => (impl_Poset_dualIdeal.l0 k 0 t507 (t507.length : Int) 0 l0_0))
theorem impl_Poset_dualIdeal.mono_l : ∀ k, (∀ y0 y1 y2 y3 y4, LeO (impl_Poset_dualIdeal.l0 k y0 y1 y2 y3 y4) (impl_Poset_dualIdeal.l0 (k + 1) y0 y1 y2 y3 y4))
  | 0 => fun _ _ _ _ _ r h => by simp [impl_Poset_dualIdeal.l0] at h
  | k + 1 => by
    have ih0 := impl_Poset_dualIdeal.mono_l k
    · intro y0 y1 y2 y3 y4
      unfold impl_Poset_dualIdeal.l0
      repeat' first
      | (with_reducible exact ih0 _ _ _ _ _)
      | (with_reducible exact impl_items.mono _ _)
      | (with_reducible exact LeO.refl _)
      | (with_reducible exact LeO.none _)
      | (with_reducible refine LeO.ite ?_ ?_)
      | (with_reducible refine LeO.bind ?_ (fun _ => ?_))
      | exact ih0 _ _ _ _ _
      | exact impl_items.mono _ _
      | exact LeO.none _
      | refine LeO.ite ?_ ?_
      | refine LeO.bind ?_ (fun _ => ?_)
theorem impl_Poset_dualIdeal.mono : ∀ a0 a1 k, LeO (impl_Poset_dualIdeal.f k a0 a1) (impl_Poset_dualIdeal.f (k + 1) a0 a1) := by
  intro a0 a1 k
  have ih0 := impl_Poset_dualIdeal.mono_l k
  unfold impl_Poset_dualIdeal.f
  repeat' first
      | (with_reducible exact ih0 _ _ _ _ _)
      | (with_reducible exact impl_items.mono _ _)
      | (with_reducible exact LeO.refl _)
      | (with_reducible exact LeO.none _)
      | (with_reducible refine LeO.ite ?_ ?_)
      | (with_reducible refine LeO.bind ?_ (fun _ => ?_))
      | exact ih0 _ _ _ _ _
      | exact impl_items.mono _ _
      | exact LeO.none _
      | refine LeO.ite ?_ ?_
      | refine LeO.bind ?_ (fun _ => ?_)
set_option maxHeartbeats 8000000 in
set_option maxRecDepth 100000 in
theorem impl_Poset_dualIdeal.calls (k : Nat) (A0_0 : Option Addr) (c0_0 : Nat) (l0_0 : List Int) (a1 : Int) (r : Int) (w : World) (hr0_0 : Kd.C (Kd.int .i64) w A0_0 l0_0.length l0_0) (hc0_0 : l0_0.length ≤ c0_0) (h : impl_Poset_dualIdeal.f k l0_0 a1 = some r) :
    Calls Try.prog 84 #[.agg #[.slice A0_0 l0_0.length c0_0], .int .i64 a1] w fun e w' => e = .returned (.int .i64 r) ∧ Below w.heap.size w w' := by
  have hu28 := Try.underlying28
  have HR0_0 := Aside0.mk hr0_0
  have HC0_0 := Aside0.mk hc0_0
  clear hr0_0 hc0_0
  have HB := Aside0.mk (Below.refl w.heap.size w)
  have H : ((impl_Poset_all.f l0_0).bind fun t506 => ((impl_items.f k (Go.bits .andNot .i64 t506 a1)).bind fun t507 => (impl_Poset_dualIdeal.l0 k 0 t507 (t507.length : Int) 0 l0_0))) = some r := h
  clear h
  replace H := Option.bind_eq_some_iff.mp H
  obtain ⟨t506, A30, H⟩ := H
  replace H : ((impl_items.f k (Go.bits .andNot .i64 t506 a1)).bind fun t507 => (impl_Poset_dualIdeal.l0 k 0 t507 (t507.length : Int) 0 l0_0)) = some r := H
  have A3 := Aside0.mk A30
  clear A30
  replace H := Option.bind_eq_some_iff.mp H
  obtain ⟨t507, A40, H⟩ := H
  replace H : (impl_Poset_dualIdeal.l0 k 0 t507 (t507.length : Int) 0 l0_0) = some r := H
  have A4 := Aside0.mk A40
  clear A40
  have H' := Aside0.mk H
  clear H
  go_enter Try.func84, Try.ntmps84
  go_wp2_with (first | ((with_reducible refine gate_dst (N := 2) rfl ?_); refine box_event ?hg (N := 2) ?hd (cs := #[.slice A0_0 l0_0.length c0_0]) (t := 28) ?hr ?_; (case hd => rfl); (case hg => rfl); (case hr => first | (go_simp; done) | (go_simp; rfl)); intro gb505 hg w5 hbox hb; have n0_ := Aside0.mk (below_step (by repeat (first | (with_reducible first | exact HB.out | apply below_alloc | apply pw_below_drewN | apply below_drew1) | exact HB.out)) hb); have n1_ := Aside0.mk (hbox); have n2_ := Aside0.mk ((by rw [hg]; exact (below_size (by repeat (first | (with_reducible first | exact HB.out | apply below_alloc | apply pw_below_drewN | apply below_drew1) | exact HB.out))) : w.heap.size ≤ gb505)); have n3_ := Aside0.mk ((by rw [hg]; exact (below_size (by repeat (first | (with_reducible first | exact HB.out | apply below_alloc | apply pw_below_drewN | apply below_drew1) | exact HB.out))) : w.heap.size ≤ gb505)); clear HB; have HB := n0_; have BK505 := n1_; have GW505 := n2_; have GE505 := n3_; clear n0_ n1_ n2_ n3_; clear hb hbox hg; have hcz6_0 : w5.cell? ⟨gb505, 0, none⟩ = some (.slice A0_0 l0_0.length c0_0) := (blk_cell BK505.out 0).trans rfl; have hfz6_0 := blk_frozen BK505.out 0) | ((with_reducible refine gate_callee (f := 112) rfl ?_); refine goesL_ (some 9) rfl rfl Try.func112 (by kernel_rfl) rfl #[.agg #[.slice A0_0 l0_0.length c0_0]] rfl (by (try simp only [List.map_toArray, List.map_cons, List.map_nil]); first | done | rfl | (simp only [List.length_drop, List.length_take]; rfl)) ?_; (with_reducible refine (impl_Poset_all.calls _ _ l0_0 t506 _ ?side1 ?side2 A3.out).mono ?_); (case side1 => repeat (first | exact (Kd.C_below HR0_0.out HB.out) | (with_reducible refine Kd.C_alloc ?_ _) | (with_reducible refine Kd.C_drewN ?_ _) | (with_reducible refine Kd.C_drew ?_))); (case side2 => exact HC0_0.out); rintro e w7 ⟨rfl, hb⟩; refine ⟨_, rfl, ?_⟩; have n0_ := Aside0.mk (blk_below (g := gb505) (o := .cells #[.slice A0_0 l0_0.length c0_0] 28 (0, 0)) (by (with_reducible repeat (first | refine blk_drewN ?_ _ | refine blk_drew ?_ | refine blk_alloc ?_ _)); exact BK505.out) hb); have n1_ := Aside0.mk (below_step (by repeat (first | (with_reducible first | exact HB.out | apply below_alloc | apply pw_below_drewN | apply below_drew1 | refine below_set ?_ GE505.out) | exact HB.out)) hb); clear BK505; clear HB; have BK505 := n0_; have HB := n1_; clear n0_ n1_; (try clear hb); (try clear hb2); (try clear hk); (try clear hi)) | ((with_reducible refine gate_callee (f := 100) rfl ?_); refine goesL_ (some 12) rfl rfl Try.func100 (by kernel_rfl) rfl #[.int .i64 (Go.bits .andNot .i64 t506 a1)] rfl (by (try simp only [List.map_toArray, List.map_cons, List.map_nil]); first | done | rfl | (simp only [List.length_drop, List.length_take]; rfl)) ?_; (with_reducible refine (impl_items.calls k (Go.bits .andNot .i64 t506 a1) t507 _ A4.out).mono ?_); rintro e w8 ⟨v508, rfl, ho0, hb⟩; refine ⟨_, rfl, ?_⟩; have n0_ := Aside0.mk (Kd.R_lower ho0 (below_size (by repeat (first | (with_reducible first | exact HB.out | apply below_alloc | apply pw_below_drewN | apply below_drew1 | refine below_set ?_ GE505.out) | exact HB.out)))); have n1_ := Aside0.mk (blk_below (g := gb505) (o := .cells #[.slice A0_0 l0_0.length c0_0] 28 (0, 0)) (by (with_reducible repeat (first | refine blk_drewN ?_ _ | refine blk_drew ?_ | refine blk_alloc ?_ _)); exact BK505.out) hb); have n2_ := Aside0.mk (below_step (by repeat (first | (with_reducible first | exact HB.out | apply below_alloc | apply pw_below_drewN | apply below_drew1 | refine below_set ?_ GE505.out) | exact HB.out)) hb); clear BK505; clear HB; have HO509 := n0_; have BK505 := n1_; have HB := n2_; clear n0_ n1_ n2_; (try clear hb); (try clear hb2); (try clear hk); (try clear hi); (try clear ho0); obtain ⟨Ao9, co9, eo9⟩ := Kd.R_slice HO509.out; subst eo9))
  go_loopg [5, 14] k (fun kq v5 v14 w' => ∃ (x5_1 : Int) (x14_1 : Int), v5 = .int .i64 x5_1 ∧ v14 = .int .i64 x14_1 ∧ Aside0 (impl_Poset_dualIdeal.l0 kq x5_1 t507 (t507.length : Int) x14_1 l0_0 = some r) ∧ Aside0 (kq ≤ k) ∧ Aside0 (Kd.R (Kd.int .i64) 3 w' w.heap.size (fun _ => True) (.slice Ao9 t507.length co9) t507) ∧ Aside0 (w'.heap[gb505]? = some (.cells #[(.slice A0_0 l0_0.length c0_0)] 28 (0, 0))) ∧ Aside0 (Below w.heap.size w w'))
  case atStart => exact ⟨(0), (0), (by first | rfl | (simp; done) | (simp [*]; done)), (by first | rfl | (simp; done) | (simp [*]; done)), H', ⟨Nat.le_refl _⟩, ⟨by (with_reducible repeat (first | apply Kd.R_alloc | apply Kd.R_drewN | apply Kd.R_drew)); exact HO509.out⟩, ⟨by (with_reducible repeat (first | refine blk_drewN ?_ _ | refine blk_drew ?_ | refine blk_alloc ?_ _)); exact BK505.out⟩, ⟨by repeat (first | (with_reducible first | exact HB.out | apply below_alloc | apply pw_below_drewN | apply below_drew1 | refine below_set ?_ GE505.out) | exact HB.out)⟩⟩
  case round =>
    clear H'
    try clear c1
    try clear p2
    try clear c8
    try clear hcz6_0
    try clear hfz6_0
    obtain ⟨x5_1, x14_1, rfl, rfl, HA, HK1, HO_12, BK505, HB⟩ := hrel
    cases gk with
    | zero => exact absurd HA.out (by simp [impl_Poset_dualIdeal.l0])
    | succ k1 =>
      have H := HA.out
      clear HA
      simp only [impl_Poset_dualIdeal.l0] at H
      by_cases c10 : x14_1 < (t507.length : Int)
      · rw [if_pos c10] at H
        have c10b0 : decide (x14_1 < (t507.length : Int)) = true := decide_eq_true c10
        clear c10
        by_cases c11 : 0 ≤ x14_1
        · rw [if_pos c11] at H
          have c11b0 : decide (0 ≤ x14_1) = true := decide_eq_true c11
          clear c11
          by_cases c12 : x14_1 < (t507.length : Int)
          · rw [if_pos c12] at H
            have c12b0 : decide (x14_1 < (t507.length : Int)) = true := decide_eq_true c12
            clear c12
            replace H := Option.bind_eq_some_iff.mp H
            obtain ⟨t511, A130, H⟩ := H
            replace H : (if 0 ≤ (wrap64 ((wrap64 (t511 - 1)) - (rd t507 x14_1))) then (impl_Poset_dualIdeal.l0 k1 (Go.bits .or .i64 x5_1 (shl .i64 1 (wrap64 ((wrap64 (t511 - 1)) - (rd t507 x14_1))))) t507 (t507.length : Int) (wrap64 (x14_1 + 1)) l0_0) else (none)) = some r := H
            have A13 := Aside0.mk A130
            clear A130
            obtain ⟨ji14, hji14⟩ : ∃ j_ : Int, (wrap64 ((wrap64 (t511 - 1)) - (rd t507 x14_1))) = j_ := ⟨_, rfl⟩
            replace H : (if 0 ≤ (ji14) then (impl_Poset_dualIdeal.l0 k1 (Go.bits .or .i64 x5_1 (shl .i64 1 (ji14))) t507 (t507.length : Int) (wrap64 (x14_1 + 1)) l0_0) else (none)) = some r := by first | (rw [hji14] at H; exact H) | (simp only [hji14] at H ⊢; exact H)
            (try rw [hji14] at A13)
            have hji14w : (IntKind.i64.wrap ((wrap64 (t511 - 1)) - (rd t507 x14_1))) = ji14 := (i64_w _).trans hji14
            by_cases c15 : 0 ≤ (ji14)
            · rw [if_pos c15] at H
              have c15b0 := eq_true c15
              have c15b1 : decide (0 ≤ (ji14)) = true := decide_eq_true c15
              clear c15
              obtain ⟨ji16, hji16⟩ : ∃ j_ : Int, (shl .i64 1 (ji14)) = j_ := ⟨_, rfl⟩
              replace H : (impl_Poset_dualIdeal.l0 k1 (Go.bits .or .i64 x5_1 (ji16)) t507 (t507.length : Int) (wrap64 (x14_1 + 1)) l0_0) = some r := by first | (rw [hji16] at H; exact H) | (simp only [hji16] at H ⊢; exact H)
              (try rw [hji16] at A13)
              have hji16_ : (IntKind.i64.wrap (1 * 2 ^ min (ji14).toNat 64)) = ji16 := hji16
              have hji16z : (ji14) ≤ 64 → (IntKind.i64.wrap (1 * 2 ^ (ji14).toNat)) = ji16 := shl_small hji16
              have hji16u : (IntKind.i64.wrap (2 ^ min (ji14).toNat 64)) = ji16 := by have h_ := hji16_; rw [Int.one_mul] at h_; exact h_
              have hji16v : (ji14) ≤ 64 → (IntKind.i64.wrap (2 ^ (ji14).toNat)) = ji16 := fun hle_ => by have h_ := hji16z hle_; rw [Int.one_mul] at h_; exact h_
              have hji16y : (wrap64 (1 * 2 ^ min (ji14).toNat 64)) = ji16 := (i64_w _).symm.trans hji16_
              have hji16x : (ji14) ≤ 64 → (wrap64 (1 * 2 ^ (ji14).toNat)) = ji16 := fun h_ => (i64_w _).symm.trans (hji16z h_)
              have H' := Aside0.mk H
              clear H
              have p510 : 0 ≤ (x14_1 : Int) := of_decide_eq_true (by first | (with_reducible assumption) | assumption)
              have q510 : x14_1 < (t507.length : Int) := of_decide_eq_true (by first | (with_reducible assumption) | assumption)
              obtain ⟨ad510, e510, hx510_0⟩ := Kd.at_int (Kd.R_reads' HO_12.out).2.2 x14_1 p510 q510
              cases e510
              replace p510 := eq_true p510
              replace q510 := eq_true q510
              have hcz17_0 : wr.cell? ⟨gb505, 0, none⟩ = some (.slice A0_0 l0_0.length c0_0) := (blk_cell BK505.out 0).trans rfl
              have hfz17_0 := blk_frozen BK505.out 0
              go_wp2_with (first | ((with_reducible refine gate_callee (f := 52) rfl ?_); refine goesL_ (some 20) rfl rfl Try.func52 (by kernel_rfl) rfl #[.agg #[.slice A0_0 l0_0.length c0_0]] rfl (by (try simp only [List.map_toArray, List.map_cons, List.map_nil]); first | done | rfl | (simp only [List.length_drop, List.length_take]; rfl)) ?_; (with_reducible refine (impl_Poset_n.calls _ _ l0_0 t511 _ ?side1 ?side2 A13.out).mono ?_); (case side1 => repeat (first | exact (Kd.C_below HR0_0.out HB.out) | (with_reducible refine Kd.C_alloc ?_ _) | (with_reducible refine Kd.C_drewN ?_ _) | (with_reducible refine Kd.C_drew ?_))); (case side2 => exact HC0_0.out); rintro e w18 ⟨rfl, hb⟩; refine ⟨_, rfl, ?_⟩; have n0_ := Aside0.mk (Kd.R_below (by (with_reducible repeat (first | apply Kd.R_alloc | apply Kd.R_drewN | apply Kd.R_drew)); exact HO_12.out) hb); have n1_ := Aside0.mk (blk_below (g := gb505) (o := .cells #[.slice A0_0 l0_0.length c0_0] 28 (0, 0)) (by (with_reducible repeat (first | refine blk_drewN ?_ _ | refine blk_drew ?_ | refine blk_alloc ?_ _)); exact BK505.out) hb); have n2_ := Aside0.mk (below_step (by repeat (first | (with_reducible first | exact HB.out | apply below_alloc | apply pw_below_drewN | apply below_drew1 | refine below_set ?_ GE505.out) | exact HB.out)) hb); clear HO_12; clear BK505; clear HB; have HO_12 := n0_; have BK505 := n1_; have HB := n2_; clear n0_ n1_ n2_; (try clear hb); (try clear hb2); (try clear hk); (try clear hi)))
              go_roundg k1
              case measure => have := HK1.out; omega
              case rel => exact ⟨(Go.bits .or .i64 x5_1 (ji16)), (wrap64 (x14_1 + 1)), (by first | rfl | (simp; done) | (simp only [← hji16] <;> (first | rfl | simp)) | (simp [*]; done)), (by first | rfl | (simp; done) | (simp [*]; done)), H', ⟨by have := HK1.out; omega⟩, ⟨by (with_reducible repeat (first | apply Kd.R_alloc | apply Kd.R_drewN | apply Kd.R_drew)); exact HO_12.out⟩, ⟨by (with_reducible repeat (first | refine blk_drewN ?_ _ | refine blk_drew ?_ | refine blk_alloc ?_ _)); exact BK505.out⟩, ⟨by repeat (first | (with_reducible first | exact HB.out | apply below_alloc | apply pw_below_drewN | apply below_drew1 | refine below_set ?_ GE505.out) | exact HB.out)⟩⟩
            · rw [if_neg c15] at H
              exact absurd H (by simp)
          · rw [if_neg c12] at H
            exact absurd H (by simp)
        · rw [if_neg c11] at H
          exact absurd H (by simp)
      · rw [if_neg c10] at H
        have c10b0 : decide (x14_1 < (t507.length : Int)) = false := decide_eq_false c10
        clear c10
        obtain rfl := Option.some.inj H
        go_wp2
        go_ret
        exact ⟨by first | rfl | (simp [errW_none, errW_some] <;> rfl) | (simp [*, errW_none, errW_some] <;> rfl), by repeat (first | (with_reducible first | exact HB.out | apply below_alloc | apply pw_below_drewN | apply below_drew1 | refine below_set ?_ GE505.out) | exact HB.out)⟩
end Go.Proofs.Ytioibkdjcmkcpaa.L
end
section
namespace Go.Proofs.Ytioibkdjcmkcpaa.M
open Go.RowKit Go.Proofs.YtioibkdjcmkcpaaW.PrintWords Go.Proofs.YtioibkdjcmkcpaaW.PrintLast Go.Proofs.YtioibkdjcmkcpaaW.PrintMore Go.Proofs.Ytioibkdjcmkcpaa.L
set_option linter.unusedVariables false
def dualN (p : List Nat) (s : Nat) : Nat := (List.range' 0 p.length).foldl (fun o i => if s.testBit i = true then o else o ||| 2 ^ (p.length - 1 - i)) 0
theorem foldl_congr {α β : Type} {f g : α → β → α} : ∀ (l : List β) (a : α), (∀ a x, x ∈ l → f a x = g a x) → l.foldl f a = l.foldl g a
  | [], _, _ => rfl
  | x :: l, a, h => by
    rw [List.foldl_cons, List.foldl_cons, h a x List.mem_cons_self]
    exact foldl_congr l _ fun a y hy => h a y (List.mem_cons_of_mem _ hy)
theorem bit_full_sd {p : List Nat} {s i : Nat} (hi : i < p.length) : (sd (full p) s).testBit i = !s.testBit i := by
  rw [sd_bit, full_bit, decide_eq_true hi, Bool.true_and]
theorem pow_lt_pow' {i n : Nat} (h : i < n) : 2 ^ i < 2 ^ n := Nat.pow_lt_pow_right (by decide) h
theorem dual_l0 {p : List Nat} (g : Good p) (s : Nat) (hs : s < 2 ^ p.length) : ∀ (d q a : Nat), q + d = (items s).length → a < 2 ^ p.length →
    Ev (fun k => impl_Poset_dualIdeal.l0 k (a : Int) (toI (items s)) ((toI (items s)).length : Int) (q : Int) (toI p)) ((((items s).drop q).foldl (fun o e => o ||| 2 ^ (p.length - 1 - e)) a : Nat) : Int)
  | 0, q, a, h, ha => by
    refine Ev.step (fun _ => impl_Poset_dualIdeal.l0.eq_2 ..) (ev_neg (by rw [toI_len]; omega) ?_)
    rw [List.drop_of_length_le (by omega)]; exact Ev.now _
  | d + 1, q, a, h, ha => by
    have hq : q < (items s).length := by omega
    have hm := items_get hq
    have hb := bit_lt hs hm.2
    have hl := items_len s
    have gl := g.le
    refine Ev.step (fun _ => impl_Poset_dualIdeal.l0.eq_2 ..) ?_
    rw [rd_items hq, toI_len]
    refine ev_pos (by omega) (ev_pos (by omega) (ev_pos (by omega) (ev_call (n_eq _) ?_)))
    rw [toI_len, wrap_id (x := (p.length : Int) - 1) (by omega) (by omega), wrap_id (by omega) (by omega), show ((p.length : Int) - 1 - ((items s)[q] : Nat)) = ((p.length - 1 - (items s)[q] : Nat) : Int) by omega, shl_one (by omega)]
    refine ev_pos (by omega) ?_
    rw [bits_or (g.len63 ha) (M.lt63 (pow_lt_pow' (show p.length - 1 - (items s)[q] < 11 by omega)) (by omega)), wrap_succ (by omega), List.drop_eq_getElem_cons hq, List.foldl_cons, ← toI_len (items s)]
    exact dual_l0 g s hs d (q + 1) _ (by omega) (Nat.or_lt_two_pow ha (pow_lt_pow' (by omega)))
theorem dualIdeal_ev {p : List Nat} (g : Good p) {s : Nat} (hs : s < 2 ^ p.length) : Ev (fun k => impl_Poset_dualIdeal.f k (toI p) (s : Int)) ((dualN p s : Nat) : Int) := by
  have hd : sd (full p) s < 2 ^ p.length := sd_lt s (full_lt p)
  refine ev_call (all_eq g.le) ?_
  rw [bits_andNot (g.len63 (full_lt p)) (g.len63 hs)]
  refine Ev.bind (items_ev (g.len63 hd)) ?_
  have h := dual_l0 g _ hd (items (sd (full p) s)).length 0 0 (by omega) (Nat.two_pow_pos _)
  rw [List.drop_zero, foldl_items_n _ _ hd g.le] at h
  have e : foldBits p.length (sd (full p) s) (fun o e => o ||| 2 ^ (p.length - 1 - e)) 0 = dualN p s := by
    unfold foldBits dualN
    rw [List.range_eq_range']
    apply foldl_congr
    intro a x hx
    have hx' : x < p.length := by simp at hx; omega
    rw [bit_full_sd hx']
    cases s.testBit x <;> simp
  rw [← e]; exact h
theorem rvDual_l0 {p : List Nat} (g : Good p) (s : Nat) : ∀ (d i a : Nat), i + d = p.length → a < 2 ^ p.length →
    Ev (fun k => spec_rvDual.l0 k (s : Int) (p.length : Int) (a : Int) (p.length : Int) (i : Int)) (((List.range' i d).foldl (fun o i => if s.testBit i = true then o else o ||| 2 ^ (p.length - 1 - i)) a : Nat) : Int)
  | 0, i, a, h, ha => by
    refine Ev.step (fun _ => spec_rvDual.l0.eq_2 ..) (ev_neg (by omega) ?_)
    exact Ev.now _
  | d + 1, i, a, h, ha => by
    have gl := g.le
    refine Ev.step (fun _ => spec_rvDual.l0.eq_2 ..) (ev_pos (by omega) (ev_call (poIn_eq (by omega)) ?_))
    rw [wrap_succ (by omega), wrap_id (x := (p.length : Int) - 1) (by omega) (by omega), wrap_id (by omega) (by omega), show ((p.length : Int) - 1 - (i : Int)) = ((p.length - 1 - i : Nat) : Int) by omega, shl_one (by omega), List.range'_succ, List.foldl_cons,
      bits_or (g.len63 ha) (M.lt63 (pow_lt_pow' (show p.length - 1 - i < 11 by omega)) (by omega))]
    refine ev_ite (fun e => ?_) (fun e => ?_)
    · rw [if_pos e]; exact rvDual_l0 g s d (i + 1) a (by omega) ha
    · rw [if_neg e]
      exact ev_pos (by omega) (rvDual_l0 g s d (i + 1) _ (by omega) (Nat.or_lt_two_pow ha (pow_lt_pow' (by omega))))
theorem rvDual_ev {p : List Nat} (g : Good p) (s : Nat) : Ev (fun k => spec_rvDual.f k (toI p) (s : Int)) ((dualN p s : Nat) : Int) := by
  have h := rvDual_l0 g s p.length 0 0 (by omega) (Nat.two_pow_pos _)
  unfold spec_rvDual.f dualN
  rw [toI_len]; exact h
end Go.Proofs.Ytioibkdjcmkcpaa.M
end
section
namespace Go.Proofs.Ytioibkdjcmkcpaa.M
open Go.RowKit Go.Proofs.YtioibkdjcmkcpaaW.PrintWords Go.Proofs.YtioibkdjcmkcpaaW.PrintLast Go.Proofs.YtioibkdjcmkcpaaW.PrintMore Go.Proofs.Ytioibkdjcmkcpaa.L
set_option linter.unusedVariables false
theorem Arr.get {p y : List Nat} {b : Nat} (h : Arr p y b) (i : Nat) : y.getD i 0 ≤ b := h.hi i
def upN (y : List Nat) (n : Nat) : Nat := (List.range' 0 y.length).foldl (fun o i => if y.getD i 0 ≤ n then o ||| 2 ^ i else o) 0
theorem upN_fold_lt (y : List Nat) (n m : Nat) : ∀ (d i a : Nat), i + d ≤ m → a < 2 ^ m → (List.range' i d).foldl (fun o i => if y.getD i 0 ≤ n then o ||| 2 ^ i else o) a < 2 ^ m
  | 0, i, a, h, ha => ha
  | d + 1, i, a, h, ha => by
    rw [List.range'_succ, List.foldl_cons]
    apply upN_fold_lt y n m d (i + 1) _ (by omega)
    split
    · exact Nat.or_lt_two_pow ha (pow_lt_pow' (by omega))
    · exact ha
theorem upN_lt (y : List Nat) (n : Nat) : upN y n < 2 ^ y.length := upN_fold_lt y n y.length y.length 0 0 (by omega) (Nat.two_pow_pos _)
theorem pcUpTo_l0 (y : List Nat) (hy : y.length ≤ 10) (n : Nat) : ∀ (d i a : Nat), i + d = y.length → a < 2 ^ y.length →
    Ev (fun k => spec_pcUpTo.l0 k (n : Int) (a : Int) (toI y) ((toI y).length : Int) (i : Int)) (((List.range' i d).foldl (fun o i => if y.getD i 0 ≤ n then o ||| 2 ^ i else o) a : Nat) : Int)
  | 0, i, a, h, ha => Ev.step (fun _ => spec_pcUpTo.l0.eq_2 ..) (ev_neg (by rw [toI_len]; omega) (Ev.now _))
  | d + 1, i, a, h, ha => by
    refine Ev.step (fun _ => spec_pcUpTo.l0.eq_2 ..) (ev_pos (by rw [toI_len]; omega) (ev_pos (by omega) (ev_pos (by rw [toI_len]; omega) ?_)))
    rw [rd_toI, shl_one (by omega), bits_or (lt63 ha (by omega)) (lt63 (pow_lt_pow' (show i < 11 by omega)) (by omega)), wrap_succ (by omega), List.range'_succ, List.foldl_cons]
    refine ev_ite (fun e => ?_) (fun e => ?_)
    · rw [if_pos (by omega)]; exact pcUpTo_l0 y hy n d (i + 1) _ (by omega) (Nat.or_lt_two_pow ha (pow_lt_pow' (by omega)))
    · rw [if_neg (by omega)]; exact pcUpTo_l0 y hy n d (i + 1) a (by omega) ha
theorem pcUpTo_ev (y : List Nat) (hy : y.length ≤ 10) (n : Nat) : Ev (fun k => spec_pcUpTo.f k (toI y) (n : Int)) ((upN y n : Nat) : Int) := pcUpTo_l0 y hy n y.length 0 0 (by omega) (Nat.two_pow_pos _)
theorem below_l1 (y : List Nat) (hy : y.length ≤ 10) (n hi : Nat) (acc : List Int) (ha : acc.length ≤ 1000) (R : List Int) (hn : n ≤ 1000)
    (hR : ∀ a : Nat, a = upN y n → Ev (fun k => impl_Poset_below.l0 k (toI y) (hi : Int) (acc ++ [(a : Int)]) ((n + 1 + 1 : Nat) : Int)) R) : ∀ (d i a : Nat), i + d = y.length → a < 2 ^ y.length → (List.range' i d).foldl (fun o i => if y.getD i 0 ≤ n then o ||| 2 ^ i else o) a = upN y n →
    Ev (fun k => impl_Poset_below.l1 k (toI y) (hi : Int) acc ((n + 1 : Nat) : Int) (a : Int) (toI y) ((toI y).length : Int) (i : Int)) R
  | 0, i, a, h, ha', he => by
    refine Ev.step (fun _ => impl_Poset_below.l1.eq_2 ..) (ev_neg (by rw [toI_len]; omega) (ev_pos (by omega) ?_))
    rw [wrap_succ (by omega)]
    exact hR a he
  | d + 1, i, a, h, ha', he => by
    rw [List.range'_succ, List.foldl_cons] at he
    refine Ev.step (fun _ => impl_Poset_below.l1.eq_2 ..) (ev_pos (by rw [toI_len]; omega) (ev_pos (by omega) (ev_pos (by rw [toI_len]; omega) ?_)))
    rw [rd_toI, shl_one (by omega), bits_or (lt63 ha' (by omega)) (lt63 (pow_lt_pow' (show i < 11 by omega)) (by omega)), wrap_succ (by omega)]
    refine ev_ite (fun e => ?_) (fun e => ?_)
    · rw [if_pos (by omega)] at he; exact below_l1 y hy n hi acc ha R hn hR d (i + 1) _ (by omega) (Nat.or_lt_two_pow ha' (pow_lt_pow' (by omega))) he
    · rw [if_neg (by omega)] at he; exact below_l1 y hy n hi acc ha R hn hR d (i + 1) a (by omega) ha' he
theorem below_l0 (y : List Nat) (hy : y.length ≤ 10) (hi : Nat) (hh : hi ≤ 900) : ∀ (d n : Nat) (acc : List Nat), n + d = hi → acc.length ≤ n →
    Ev (fun k => impl_Poset_below.l0 k (toI y) (hi : Int) (toI acc) ((n + 1 : Nat) : Int)) (toI (acc ++ (List.range' n d).map (upN y)))
  | 0, n, acc, h, ha => by
    refine Ev.step (fun _ => impl_Poset_below.l0.eq_2 ..) (ev_neg (by omega) ?_)
    simpa using Ev.now _
  | d + 1, n, acc, h, ha => by
    refine Ev.step (fun _ => impl_Poset_below.l0.eq_2 ..) (ev_pos (by omega) ?_)
    refine below_l1 y hy n hi _ (by rw [toI_len]; omega) _ (by omega) (fun a hae => ?_) y.length 0 0 (by omega) (Nat.two_pow_pos _) rfl
    rw [← toI_one, ← toI_app, List.range'_succ, List.map_cons, hae]
    have := below_l0 y hy hi hh d (n + 1) (acc ++ [upN y n]) (by omega) (by simp; omega)
    simpa using this
theorem below_ev (l : List Int) (y : List Nat) (hy : y.length ≤ 10) (hi : Nat) (hh : hi ≤ 900) : Ev (fun k => impl_Poset_below.f k l (toI y) 1 (hi : Int)) (toI ((List.range' 0 hi).map (upN y))) := by
  have := below_l0 y hy hi hh hi 0 [] (by omega) (by simp)
  rw [List.nil_append] at this; exact this
theorem layers_l0 (y : List Nat) (hy : y.length ≤ 10) (hi : Nat) (hh : hi ≤ 900) : ∀ (d n : Nat) (acc : List Nat), n + d = hi → acc.length ≤ n →
    Ev (fun k => spec_LayersOf.l0 k (toI y) (hi : Int) (toI acc) (n : Int)) (toI (acc ++ (List.range' n d).map (upN y)), true)
  | 0, n, acc, h, ha => by
    refine Ev.step (fun _ => spec_LayersOf.l0.eq_2 ..) (ev_neg (by omega) ?_)
    simpa using Ev.now _
  | d + 1, n, acc, h, ha => by
    refine Ev.step (fun _ => spec_LayersOf.l0.eq_2 ..) (ev_pos (by omega) (Ev.bind (pcUpTo_ev y hy n) (ev_pos (by rw [toI_len]; omega) ?_)))
    rw [← toI_one, ← toI_app, List.range'_succ, List.map_cons, wrap_succ (by omega)]
    have := layers_l0 y hy hi hh d (n + 1) (acc ++ [upN y n]) (by omega) (by simp; omega)
    simpa using this
theorem agree_FnExactLayersOf (l x : List Int) (b : Int) (_ : l.length ≤ 1048576) (_ : x.length ≤ 1048576) : ∃ r : List Int × Bool, r.1.length ≤ 1000 ∧ Ev (fun k => spec_LayersOf.f k l x b) r ∧ Ev (fun k => impl_LayersOf.f k l x b) r := by
  by_cases h : arrayB l x b = true
  · obtain ⟨p, y, c, rfl, rfl, rfl, g, hc, ha⟩ := arrayB_of h
    have hy : y.length ≤ 10 := by rw [ha.len]; exact g.le
    refine ⟨(toI ((List.range' 0 c).map (upN y)), true), by simp; omega, ?_, ?_⟩
    · have := layers_l0 y hy c (by omega) c 0 [] (by omega) (by simp)
      exact Ev.bind (pcIs_ev _ _ _) (ev_pos h (by simpa using this))
    · exact Ev.bind (isArray_ev _ _ _) (ev_pos h (Ev.bind (below_ev _ y hy c (by omega)) (Ev.now _)))
  · exact ⟨([], false), by simp, Ev.bind (pcIs_ev _ _ _) (ev_neg h (Ev.now _)), Ev.bind (isArray_ev _ _ _) (ev_neg h (Ev.now _))⟩
theorem agree_FnExactIdealOfArray (l x : List Int) (b : Int) (_ : l.length ≤ 1048576) (_ : x.length ≤ 1048576) : ∃ r : Int × Bool, Ev (fun k => spec_IdealOfArray.f k l x b) r ∧ Ev (fun k => impl_IdealOfArray.f k l x b) r := by
  by_cases h : arrayB l x b = true
  · obtain ⟨p, y, c, rfl, rfl, rfl, g, hc, ha⟩ := arrayB_of h
    have hy : y.length ≤ 10 := by rw [ha.len]; exact g.le
    refine ⟨(((upN y 0 : Nat) : Int), true), ?_, ?_⟩
    · exact Ev.bind (pcIs_ev _ _ _) (ev_pos h (Ev.bind (pcUpTo_ev y hy 0) (Ev.now _)))
    · refine Ev.bind (isArray_ev _ _ _) (ev_pos h (Ev.bind (below_ev _ y hy 1 (by omega)) (ev_pos (by simp) ?_)))
      exact Ev.now _
  · exact ⟨(0, false), Ev.bind (pcIs_ev _ _ _) (ev_neg h (Ev.now _)), Ev.bind (isArray_ev _ _ _) (ev_neg h (Ev.now _))⟩
def arrOf (n s b : Nat) : List Nat := (List.range' 0 n).map fun e => if s.testBit e = true then 0 else b
theorem specArr_l0 (s b n : Nat) (hn : n ≤ 10) : ∀ (d i : Nat) (acc : List Nat), i + d = n → acc.length ≤ i →
    Ev (fun k => spec_ArrayOfIdeal.l0 k (s : Int) (b : Int) (toI acc) (n : Int) (i : Int)) (toI (acc ++ (List.range' i d).map fun e => if s.testBit e = true then 0 else b), true)
  | 0, i, acc, h, ha => by
    refine Ev.step (fun _ => spec_ArrayOfIdeal.l0.eq_2 ..) (ev_neg (by omega) ?_)
    simpa using Ev.now _
  | d + 1, i, acc, h, ha => by
    refine Ev.step (fun _ => spec_ArrayOfIdeal.l0.eq_2 ..) (ev_pos (by omega) (ev_call (poIn_eq (by omega)) ?_))
    rw [wrap_succ (by omega), List.range'_succ, List.map_cons]
    refine ev_ite (fun e => ev_pos (by rw [toI_len]; omega) ?_) (fun e => ev_pos (by rw [toI_len]; omega) ?_)
    · rw [if_pos e, show (0 : Int) = ((0 : Nat) : Int) from rfl, ← toI_one, ← toI_app]
      have := specArr_l0 s b n hn d (i + 1) (acc ++ [0]) (by omega) (by simp; omega)
      simpa using this
    · rw [if_neg e, ← toI_one, ← toI_app]
      have := specArr_l0 s b n hn d (i + 1) (acc ++ [b]) (by omega) (by simp; omega)
      simpa using this
theorem implArr_l0 (s b n : Nat) (hs : s < 2 ^ 63) (hn : n ≤ 10) : ∀ (d i : Nat) (acc : List Nat), i + d = n → acc.length ≤ i →
    Ev (fun k => impl_ArrayOfIdeal.l0 k (s : Int) (b : Int) (toI acc) (n : Int) (i : Int)) (toI (acc ++ (List.range' i d).map fun e => if s.testBit e = true then 0 else b), true)
  | 0, i, acc, h, ha => by
    refine Ev.step (fun _ => impl_ArrayOfIdeal.l0.eq_2 ..) (ev_neg (by omega) ?_)
    simpa using Ev.now _
  | d + 1, i, acc, h, ha => by
    refine Ev.step (fun _ => impl_ArrayOfIdeal.l0.eq_2 ..) (ev_pos (by omega) (ev_call (has_eq hs (by omega)) ?_))
    rw [wrap_succ (by omega), List.range'_succ, List.map_cons]
    refine ev_ite (fun e => ev_pos (by rw [toI_len]; omega) ?_) (fun e => ev_pos (by rw [toI_len]; omega) ?_)
    · rw [if_pos e, show (0 : Int) = ((0 : Nat) : Int) from rfl, ← toI_one, ← toI_app]
      have := implArr_l0 s b n hs hn d (i + 1) (acc ++ [0]) (by omega) (by simp; omega)
      simpa using this
    · rw [if_neg e, ← toI_one, ← toI_app]
      have := implArr_l0 s b n hs hn d (i + 1) (acc ++ [b]) (by omega) (by simp; omega)
      simpa using this
theorem agree_FnExactArrayOfIdeal (l : List Int) (s b : Int) (_ : l.length ≤ 1048576) : ∃ r : List Int × Bool, r.1.length ≤ 1000 ∧ Ev (fun k => spec_ArrayOfIdeal.f k l s b) r ∧ Ev (fun k => impl_ArrayOfIdeal.f k l s b) r := by
  by_cases h : idB l s = true
  · by_cases h2 : inB b 0 20 = true
    · obtain ⟨p, t, rfl, rfl, g, ht⟩ := idB_of h
      have b2 := inB_iff.mp h2
      obtain ⟨c, rfl⟩ : ∃ c : Nat, b = (c : Int) := ⟨b.toNat, by omega⟩
      refine ⟨(toI (arrOf p.length t c), true), by have := g.le; simp [arrOf]; omega, ?_, ?_⟩
      · have := specArr_l0 t c p.length g.le p.length 0 [] (by omega) (by simp)
        refine Ev.bind (tgIn_ev _ _) (ev_pos h (ev_call (pcBound_eq _) ?_))
        rw [h2]
        refine Ev.step (fun _ => spec_ArrayOfIdeal.j0.eq_2 ..) (ev_neg (by simp) ?_)
        simpa [arrOf] using this
      · have := implArr_l0 t c p.length (g.len63 ht.1) g.le p.length 0 [] (by omega) (by simp)
        refine Ev.bind (isHigh_ev _ _) (ev_pos (by rw [goodB_toI g, h2]; rfl) (Ev.bind (isIdeal_ev _ _) ?_))
        rw [h]
        refine Ev.step (fun _ => impl_ArrayOfIdeal.j0.eq_2 ..) (ev_neg (by simp) (ev_call (n_eq _) ?_))
        simpa [arrOf] using this
    · refine ⟨([], false), by simp, ?_, ?_⟩
      · refine Ev.bind (tgIn_ev _ _) (ev_pos h (ev_call (pcBound_eq _) ?_))
        rw [Bool.eq_false_iff.mpr h2]
        exact Ev.step (fun _ => spec_ArrayOfIdeal.j0.eq_2 ..) (ev_pos rfl (Ev.now _))
      · refine Ev.bind (isHigh_ev _ _) (ev_neg (by rw [Bool.eq_false_iff.mpr h2]; simp) ?_)
        exact Ev.step (fun _ => impl_ArrayOfIdeal.j0.eq_2 ..) (ev_pos rfl (Ev.now _))
  · refine ⟨([], false), by simp, ?_, ?_⟩
    · refine Ev.bind (tgIn_ev _ _) (ev_neg h ?_)
      exact Ev.step (fun _ => spec_ArrayOfIdeal.j0.eq_2 ..) (ev_pos rfl (Ev.now _))
    · refine Ev.bind (isHigh_ev _ _) (ev_ite (fun _ => Ev.bind (isIdeal_ev _ _) ?_) (fun _ => ?_))
      · rw [Bool.eq_false_iff.mpr h]
        exact Ev.step (fun _ => impl_ArrayOfIdeal.j0.eq_2 ..) (ev_pos rfl (Ev.now _))
      · exact Ev.step (fun _ => impl_ArrayOfIdeal.j0.eq_2 ..) (ev_pos rfl (Ev.now _))
end Go.Proofs.Ytioibkdjcmkcpaa.M
end
section
namespace Go.Proofs.Ytioibkdjcmkcpaa.M
open Go.RowKit Go.Proofs.YtioibkdjcmkcpaaW.PrintWords Go.Proofs.YtioibkdjcmkcpaaW.PrintLast Go.Proofs.YtioibkdjcmkcpaaW.PrintMore Go.Proofs.Ytioibkdjcmkcpaa.L
theorem szIntS_eq (l : List Int) (h : l.length ≤ maxLen) : laws_szIntS.f l 1048576 = some (if 1048576 < l.length then -1 else 1048576 - (l.length : Int)) := by
  unfold maxLen at h
  unfold laws_szIntS.f
  rw [wrap_id (by omega) (by omega)]
  by_cases h2 : 1048576 < l.length
  · rw [if_pos (by omega), if_pos h2]
  · rw [if_neg (by omega), if_neg h2]
theorem szPoset_eq (l : List Int) (h : l.length ≤ maxLen) : laws_szPoset.f l 1048576 = some (if 1048576 < l.length then -1 else 1048576 - (l.length : Int)) := by
  unfold laws_szPoset.f
  rw [szIntS_eq l h, Option.bind_some]
  split
  · rfl
  · rw [if_neg (by omega)]
theorem toPoset_ev (l : List Int) (hl : l.length ≤ 35184372088832) : Ev (fun k => laws_toPoset.f k l) l := Ev.bind (toIntS_ev l hl) (Ev.now _)
theorem eqPoset_ev (a b : List Int) (hl : a.length ≤ 9223372036854775806) : Ev (fun k => laws_eqPoset.f k a b) (decide (a = b)) := by
  refine Ev.bind (eqIntS_ev a b hl) (ev_ite (fun e => ?_) (fun e => ?_))
  · rw [e]; exact Ev.now _
  · rw [Bool.eq_false_iff.mpr e]; exact Ev.now _
theorem eqPoset_refl (a : List Int) (hl : a.length ≤ 9223372036854775806) : Ev (fun k => laws_eqPoset.f k a a) true := by simpa using eqPoset_ev a a hl
theorem eqIntS_refl (a : List Int) (hl : a.length ≤ 9223372036854775806) : Ev (fun k => laws_eqIntS.f k a a) true := by simpa using eqIntS_ev a a hl
theorem markPoset_ev (l : List Int) (q : Nat) (hl : l.length ≤ 4611686018427387903) (hq : q ≤ 4611686018427387903) : Ev (fun k => laws_markPoset.f k l (q : Int)) (((q + l.length : Nat) : Int), marks q l.length) := Ev.bind (markIntS_ev l q hl hq) (Ev.now _)
end Go.Proofs.Ytioibkdjcmkcpaa.M
end
section
namespace Go.Proofs.Ytioibkdjcmkcpaa.Pure
open Go.RowKit Go.Proofs.YtioibkdjcmkcpaaW.PrintWords Go.Proofs.YtioibkdjcmkcpaaW.PrintLast Go.Proofs.YtioibkdjcmkcpaaW.PrintMore Go.Proofs.Ytioibkdjcmkcpaa.L Go.Proofs.Ytioibkdjcmkcpaa.M
theorem FnExactArrayOfIdeal : laws_FnExactArrayOfIdeal.Pure2 := by
  intro l0 a1 a2 hm0 hw0 w1 w2
  refine Ev.rounds ?_
  refine ev_call (szPoset_eq l0 hm0) ?_
  by_cases b0 : 1048576 < l0.length
  · rw [if_pos b0]; exact ev_pos (by decide) (Ev.now _)
  rw [if_neg b0]
  refine ev_neg (by omega) ?_
  have T0 := toPoset_ev l0 (by omega)
  have E0 := eqPoset_refl l0 (by omega)
  have M0 := markPoset_ev l0 (1) (by omega) (by omega)
  obtain ⟨r, hr, hs, hi⟩ := agree_FnExactArrayOfIdeal l0 a1 a2 (by omega)
  have Er := eqIntS_refl r.1 (by omega)
  have Mr := markIntS_ev r.1 1 (by omega) (by omega)
  have Hr := heldIntS_ev 1 r.1.length (by omega) (by omega)
  repeat' first
    | with_reducible exact Ev.now true
    | with_reducible refine Ev.bind hs ?_
    | with_reducible refine Ev.bind hi ?_
    | with_reducible refine Ev.bind T0 ?_
    | with_reducible refine Ev.bind E0 ?_
    | with_reducible refine Ev.bind M0 ?_
    | with_reducible refine Ev.bind Er ?_
    | with_reducible refine Ev.bind Mr ?_
    | with_reducible refine Ev.bind Hr ?_
    | with_reducible refine Ev.step (fun _ => laws_FnExactArrayOfIdeal.j0.eq_2 ..) ?_
    | with_reducible refine Ev.step (fun _ => laws_FnExactArrayOfIdeal.j1.eq_2 ..) ?_
    | with_reducible refine Ev.step (fun _ => laws_FnExactArrayOfIdeal.j2.eq_2 ..) ?_
    | with_reducible refine ev_pos rfl ?_
    | (with_reducible refine ev_neg ?h ?_; case h => first | (simp; done) | omega | (simp only; omega) | (simp; omega))
end Go.Proofs.Ytioibkdjcmkcpaa.Pure
end
section
namespace Go.Proofs.Ytioibkdjcmkcpaa.R
open Go.ChangeShapes Go.WideShapes Go.ChangeAt Go.RowKit
open Go.ChangeMaps (open_string shut_string)
set_option linter.unusedVariables false
def IsRow (k : IntKind) (w : World) (a : Option Addr) (len cap : Nat) (zs : List Int) : Prop :=
  (a = none ∧ len = 0 ∧ cap = 0 ∧ zs = []) ∨
  ∃ x, a = some x ∧ len ≤ cap ∧ cap ≤ maxLen ∧ zs.length = cap ∧ (∀ i, i < zs.length → w.cell? (x.add i) = some (.int k (zs.getD i 0))) ∧ ∀ n ∈ zs, (Lit.int k n).wf = true
variable {H : Type} {enc : TypeId × Value → H} {P : Program} {W : World} {base : Nat} {ps : List MemPlace}
theorem row_of {t e : TypeId} {k : IntKind} {fuel : Nat} {c : Value} {y : DataW H × List MemPlace} (hu : P.underlying t = some (.slice e)) (he : P.underlying e = some (.int k)) (hc : P.cellsOf e = 1)
    (hf : DataW.trod enc P W 0 (fun _ => true) true fuel t [c] = some y) : ∃ a len cap zs, c = .slice a len cap ∧ IsRow k W a len cap zs := by
  rcases open_ints hu he hc hf with ⟨hcs, _⟩ | ⟨x, l, c', zs, hcs, _, hl, hm, hz, _, hcell, hwz⟩
  · simp only [List.cons.injEq, and_true] at hcs
    subst hcs
    exact ⟨_, _, _, [], rfl, .inl ⟨rfl, rfl, rfl, rfl⟩⟩
  · simp only [List.cons.injEq, and_true] at hcs
    subst hcs
    exact ⟨_, _, _, zs, rfl, .inr ⟨_, rfl, hl, hm, by simpa using hz, hcell, hwz⟩⟩
theorem array1 {α : Type} {cs : Array α} (h : cs.size = 1) : ∃ c0, cs = #[c0] := by
  obtain ⟨l⟩ := cs
  match l, h with
  | [c0], _ => exact ⟨c0, rfl⟩
theorem open_poset {r : Reach} {t e : TypeId} {f : Field} {v : Value} {d : DataW H} (hs : P.underlying t = some (.struct #[f])) (ho : f.offset = 0) (hC : P.cellsOf t = 1) (hfc : P.cellsOf f.type = 1) (hu : P.underlying f.type = some (.slice e)) (he : P.underlying e = some (.int .i64)) (hc : P.cellsOf e = 1)
    (hv : Value.okWide P W r base t v) (h : DataW.Trod enc P W 0 (fun _ => true) true t v d ps) : ∃ a len cap zs, v = .agg #[.slice a len cap] ∧ IsRow .i64 W a len cap zs := by
  obtain ⟨cs, rfl, hsz⟩ := okWide_struct hs hv
  obtain ⟨c0, rfl⟩ := array1 (hsz.trans hC)
  obtain ⟨fuel, hf⟩ := h
  obtain ⟨y0, n, _, _, h0⟩ := trod_struct1 hs hf
  rw [ho, hfc] at h0
  obtain ⟨a, len, cap, zs, rfl, hz⟩ := row_of hu he hc (by simpa [Value.cells] using h0)
  exact ⟨a, len, cap, zs, rfl, hz⟩
theorem open_desk {r : Reach} {t e : TypeId} {f f1 g : Field} {v : Value} {d : DataW H} (hs : P.underlying t = some (.struct #[f, f1])) (ho : f.offset = 0) (ho1 : f1.offset = 1) (hC : P.cellsOf t = 2) (hfc : P.cellsOf f.type = 1) (hfc1 : P.cellsOf f1.type = 1)
    (hs2 : P.underlying f.type = some (.struct #[g])) (hgo : g.offset = 0) (hgc : P.cellsOf g.type = 1) (hu : P.underlying g.type = some (.slice e)) (he : P.underlying e = some (.int .i64)) (hc : P.cellsOf e = 1) (hi : P.underlying f1.type = some (.int .i64))
    (hv : Value.okWide P W r base t v) (h : DataW.Trod enc P W 0 (fun _ => true) true t v d ps) : ∃ a len cap zs x, v = .agg #[.slice a len cap, .int .i64 x] ∧ IsRow .i64 W a len cap zs ∧ (Lit.int .i64 x).wf = true := by
  obtain ⟨cs, rfl, hsz⟩ := okWide_struct hs hv
  obtain ⟨c0, c1, rfl⟩ := Joins.array2 (hsz.trans hC)
  obtain ⟨fuel, hf⟩ := h
  obtain ⟨y0, y1, n, _, _, h0, h1⟩ := trod_struct2 hs hf
  rw [ho, hfc] at h0
  rw [ho1, hfc1] at h1
  obtain ⟨z0, m, _, _, h00⟩ := trod_struct1 hs2 h0
  rw [hgo, hgc] at h00
  obtain ⟨a, len, cap, zs, rfl, hz⟩ := row_of hu he hc (by simpa [Value.cells] using h00)
  obtain ⟨x, e0, e1, wx⟩ := DataW.trod_int hi h1
  simp [Value.cells] at e0
  subst e0
  exact ⟨a, len, cap, zs, x, rfl, hz, wx⟩
end Go.Proofs.Ytioibkdjcmkcpaa.R
end
section
namespace Go.Proofs.Ytioibkdjcmkcpaa.fnExactArrayOfIdeal
open Go.ChangeShapes Go.WideShapes Go.ChangeAt Go.RowKit Go.Proofs.YtioibkdjcmkcpaaW.PrintWords Go.Proofs.Ytioibkdjcmkcpaa.R
open Go.ChangeMaps (open_string shut_string)
set_option linter.unusedVariables false
theorem own : ownKnob Try.prog.godebug = none := by kernel_rfl
theorem laidOut : laidOutB Try.prog = true := by kernel_rfl
set_option maxRecDepth 100000 in
theorem lifted (os : Os) (started : os.Started) (H : Type) (enc : TypeId × Value → H) :
    ReturnsInHanded {} Try.checked os 6 .any (Rows.fnExactArrayOfIdealSpec.pre6 enc Try.prog Try.f6 Rows.fnExactArrayOfIdealRow.domain false) (Rows.fnExactArrayOfIdealSpec.post enc Try.prog Try.f6 false true false false) := by
  refine returnsInHanded_of_change_sized (C := Try.checked) own started (by kernel_rfl) Try.func6
    (ChangeSpec.witness6 (enc := enc) (C := Try.checked) false ⟨#[], #[.agg #[.slice none 0 0], .int .i64 0, .int .i64 0], []⟩ 8 (by kernel_rfl) (by kernel_rfl) (by kernel_rfl) (by kernel_rfl)) ?_
  intro W base args ds gs before hval0 hW hcnd hsz0 _
  have hval : ∀ (j : Nat) t v, Try.f6.params[j]? = some t → args[j]? = some v → Value.okWide Try.prog W .any base t v := hval0
  have hW' := hW
  obtain ⟨p, q, hA0, hV, rfl, hfz, hnd⟩ := hW
  have hA : DataW.TrodAll enc Try.prog W 0 (fun _ => true) true Try.f6.params.toList args.toList ds p := hA0
  rw [Try.params6] at hA hval
  obtain ⟨v0, vs0, d0, ds0, p0, q0, hargs, rfl, rfl, h0, r0⟩ := trodAll_cons hA
  obtain ⟨v1, vs1, d1, ds1, p1, q1, rfl, rfl, rfl, h1, r1⟩ := trodAll_cons r0
  obtain ⟨v2, vs2, d2, ds2, p2, q2, rfl, rfl, rfl, h2, r2⟩ := trodAll_cons r1
  obtain ⟨rfl, rfl, rfl⟩ := trodAll_nil r2
  obtain rfl : args = #[v0, v1, v2] := by cases args; simp_all
  obtain ⟨rfl, rfl⟩ := trodVars_none hV
  have k0 := h0
  have lt0 : ∀ x ∈ p0, x.block < W.heap.size := by obtain ⟨m, hm⟩ := k0; exact DataW.trod_lt m _ _ _ hm
  obtain ⟨A0, len0, cap0, z0, rfl, w0⟩ := open_poset Try.underlying24 rfl (by kernel_rfl) (by kernel_rfl) Try.underlying22 Try.underlying3 (by kernel_rfl) (hval 0 24 v0 rfl rfl) h0
  have k1 := h1
  have lt1 : ∀ x ∈ p1, x.block < W.heap.size := by obtain ⟨m, hm⟩ := k1; exact DataW.trod_lt m _ _ _ hm
  obtain ⟨a1, rfl, rfl, rfl, w1⟩ := open_int Try.underlying3 (hval 1 3 v1 rfl rfl) h1
  have k2 := h2
  have lt2 : ∀ x ∈ p2, x.block < W.heap.size := by obtain ⟨m, hm⟩ := k2; exact DataW.trod_lt m _ _ _ hm
  obtain ⟨a2, rfl, rfl, rfl, w2⟩ := open_int Try.underlying3 (hval 2 3 v2 rfl rfl) h2
  obtain ⟨l0, rfl, hr0, hm0, hw0, hc0⟩ := ReadsInt.ofRowC w0
  clear hA0 hval0 hsz0
  obtain ⟨k, hp⟩ := Pure.FnExactArrayOfIdeal l0 a1 a2 hm0 hw0 w1 w2
  refine (L.laws_FnExactArrayOfIdeal.calls k _ _ l0 a1 a2 true W (Kd.C_of_reads (d := (0 : Int)) (h1 := fun _ => rfl) hr0) hc0 hp).mono fun e W' ⟨he, hd⟩ => ?_
  have bel : Below W.heap.size W W' := hd
  subst he
  exact ⟨_, rfl, _, _, _, [], _, [], hW', trodAll_mk1 (shut_bool Try.underlying4 _), (trodAll_cons_mk (Below.trod laidOut (by kernel_rfl) (of_decide_eq_true (by kernel_rfl)) k0 bel lt0) (trodAll_cons_mk (Below.trod laidOut (by kernel_rfl) (of_decide_eq_true (by kernel_rfl)) k1 bel lt1) (trodAll_cons_mk (Below.trod laidOut (by kernel_rfl) (of_decide_eq_true (by kernel_rfl)) k2 bel lt2) trodAll_mk0))), rfl, bel.frame _, fun h => by cases h⟩
theorem over : Rows.fnExactArrayOfIdealRow.holds Try.pinned (OpenSpec.ofChange Rows.fnExactArrayOfIdealSpec) :=
  OpenClaim.holds_of_wide 6 Try.f6 rfl rfl rfl rfl rfl rfl rfl ⟨rfl, rfl, rfl, rfl, rfl⟩ rfl rfl rfl rfl rfl (by kernel_rfl) Try.func6 (by kernel_rfl)
    (of_decide_eq_true (by kernel_rfl)) (by unfold Func.isWrapper; first | (rw [if_pos (by decide +kernel)]; kernel_rfl) | (rw [if_neg (by decide +kernel)]; exact ⟨rfl, rfl⟩))
    (fun os started H enc _ => lifted os started H enc)
theorem proved : Rows.FnExactArrayOfIdealSaid := over
end Go.Proofs.Ytioibkdjcmkcpaa.fnExactArrayOfIdeal
namespace Go.Proofs.Ytioibkdjcmkcpaa
theorem fnExactArrayOfIdeal_holds : Rows.FnExactArrayOfIdealSaid := fnExactArrayOfIdeal.proved
end Go.Proofs.Ytioibkdjcmkcpaa
end
