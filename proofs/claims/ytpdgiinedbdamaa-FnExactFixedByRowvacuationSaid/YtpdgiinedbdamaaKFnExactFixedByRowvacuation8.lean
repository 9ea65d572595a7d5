/- Laws about the given program: the law FnExactFixedByRowvacuation answers true for every input that its row lets in; no condition is added to the given statement. Contracts of the Go functions that it reaches, and the plain proof over lists. -/
import Derived.Laws.BitsLemmas
import Derived.WalkKit
import Derived.Test.YtpdgiinedbdamaaWFnExactFixedByRowvacuation0
import Derived.Test.YtpdgiinedbdamaaKFnExactFixedByRowvacuation0
import Derived.Test.YtpdgiinedbdamaaKFnExactFixedByRowvacuation1
import Derived.Test.YtpdgiinedbdamaaKFnExactFixedByRowvacuation2
import Derived.Test.YtpdgiinedbdamaaKFnExactFixedByRowvacuation3
import Derived.Test.YtpdgiinedbdamaaKFnExactFixedByRowvacuation4
import Derived.Test.YtpdgiinedbdamaaKFnExactFixedByRowvacuation5
import Derived.Test.YtpdgiinedbdamaaKFnExactFixedByRowvacuation6
import Derived.Test.YtpdgiinedbdamaaKFnExactFixedByRowvacuation7
section
namespace Go.Proofs.Ytpdgiinedbdamaa.L
open Go.RowKit Go.Proofs.YtpdgiinedbdamaaW.PrintWords Go.Proofs.YtpdgiinedbdamaaW.PrintLast Go.Proofs.YtpdgiinedbdamaaW.PrintMore
attribute [local go_sem] max2_int min2_int max_two min_two max_three min_three max_four min_four
set_option linter.unusedVariables false
set_option linter.unusedSimpArgs false
def impl_DualRowvacuation.l0 : Nat → Int → List Int → Int → List Int → Int → Int → List Int → Option (Int × Bool)
  | 0, _, _, _, _, _, _, _ => none
  | k + 1, x1, x6, x7, x18, x19, x20, x582000 => if x20 < x19 then (if 0 ≤ x20 then (if x20 < (x18.length : Int) then (if x6.length < 17592186044416 then (impl_DualRowvacuation.l0 k x1 (x6 ++ [wrap64 (x7 - (rd x18 x20))]) x7 x18 x19 (wrap64 (x20 + 1)) x582000) else (none)) else (none)) else (none)) else ((impl_Poset_toggleRanks.f k x582000 x1 x6).bind fun t594 => (some (t594, true)))
def impl_DualRowvacuation.f (k : Nat) (l0_0 : List Int) (a1 : Int) : Option (Int × Bool) := (impl_isRankedIdeal.f k l0_0 a1).bind fun t582 => (if t582 = true then ((impl_Poset_high.f k l0_0).bind fun t586 => ((impl_vacuation.f k t586).bind fun t587 => (impl_DualRowvacuation.l0 k a1 (([] : List Int)) t586 t587 (t587.length : Int) 0 l0_0))) else (some (0, false)))
theorem impl_DualRowvacuation.mono_l : ∀ k, (∀ y0 y1 y2 y3 y4 y5 y6, LeO (impl_DualRowvacuation.l0 k y0 y1 y2 y3 y4 y5 y6) (impl_DualRowvacuation.l0 (k + 1) y0 y1 y2 y3 y4 y5 y6))
  | 0 => fun _ _ _ _ _ _ _ r h => by simp [impl_DualRowvacuation.l0] at h
  | k + 1 => by
    have ih0 := impl_DualRowvacuation.mono_l k
    · intro y0 y1 y2 y3 y4 y5 y6
      unfold impl_DualRowvacuation.l0
      repeat' first
      | (with_reducible exact ih0 _ _ _ _ _ _ _)
      | (with_reducible exact impl_Poset_high.mono _ _)
      | (with_reducible exact impl_Poset_toggleRanks.mono _ _ _ _)
      | (with_reducible exact impl_isRankedIdeal.mono _ _ _)
      | (with_reducible exact impl_vacuation.mono _ _)
      | (with_reducible exact LeO.refl _)
      | (with_reducible exact LeO.none _)
      | (with_reducible refine LeO.ite ?_ ?_)
      | (with_reducible refine LeO.bind ?_ (fun _ => ?_))
      | exact ih0 _ _ _ _ _ _ _
      | exact impl_Poset_high.mono _ _
      | exact impl_Poset_toggleRanks.mono _ _ _ _
      | exact impl_isRankedIdeal.mono _ _ _
      | exact impl_vacuation.mono _ _
      | exact LeO.none _
      | refine LeO.ite ?_ ?_
      | refine LeO.bind ?_ (fun _ => ?_)
theorem impl_DualRowvacuation.mono : ∀ a0 a1 k, LeO (impl_DualRowvacuation.f k a0 a1) (impl_DualRowvacuation.f (k + 1) a0 a1) := by
  intro a0 a1 k
  have ih0 := impl_DualRowvacuation.mono_l k
  unfold impl_DualRowvacuation.f
  repeat' first
      | (with_reducible exact ih0 _ _ _ _ _ _ _)
      | (with_reducible exact impl_Poset_high.mono _ _)
      | (with_reducible exact impl_Poset_toggleRanks.mono _ _ _ _)
      | (with_reducible exact impl_isRankedIdeal.mono _ _ _)
      | (with_reducible exact impl_vacuation.mono _ _)
      | (with_reducible exact LeO.refl _)
      | (with_reducible exact LeO.none _)
      | (with_reducible refine LeO.ite ?_ ?_)
      | (with_reducible refine LeO.bind ?_ (fun _ => ?_))
      | exact ih0 _ _ _ _ _ _ _
      | exact impl_Poset_high.mono _ _
      | exact impl_Poset_toggleRanks.mono _ _ _ _
      | exact impl_isRankedIdeal.mono _ _ _
      | exact impl_vacuation.mono _ _
      | exact LeO.none _
      | refine LeO.ite ?_ ?_
      | refine LeO.bind ?_ (fun _ => ?_)
set_option maxHeartbeats 8000000 in
set_option maxRecDepth 100000 in
theorem impl_DualRowvacuation.calls (k : Nat) (A0_0 : Option Addr) (c0_0 : Nat) (l0_0 : List Int) (a1 : Int) (r1 : Int) (r2 : Bool) (w : World) (hr0_0 : Kd.C (Kd.int .i64) w A0_0 l0_0.length l0_0) (hc0_0 : l0_0.length ≤ c0_0) (h : impl_DualRowvacuation.f k l0_0 a1 = some (r1, r2)) :
    Calls Try.prog 31 #[.agg #[.slice A0_0 l0_0.length c0_0], .int .i64 a1] w fun e w' => e = .returned (.tuple #[.int .i64 r1, .bool r2]) ∧ Below w.heap.size w w' := by
  have hu28 := Try.underlying28
  have HR0_0 := Aside0.mk hr0_0
  have HC0_0 := Aside0.mk hc0_0
  clear hr0_0 hc0_0
  have HB := Aside0.mk (Below.refl w.heap.size w)
  have H : ((impl_isRankedIdeal.f k l0_0 a1).bind fun t582 => (if t582 = true then ((impl_Poset_high.f k l0_0).bind fun t586 => ((impl_vacuation.f k t586).bind fun t587 => (impl_DualRowvacuation.l0 k a1 (([] : List Int)) t586 t587 (t587.length : Int) 0 l0_0))) else (some (0, false)))) = some (r1, r2) := h
  clear h
  replace H := Option.bind_eq_some_iff.mp H
  obtain ⟨t582, A30, H⟩ := H
  replace H : (if t582 = true then ((impl_Poset_high.f k l0_0).bind fun t586 => ((impl_vacuation.f k t586).bind fun t587 => (impl_DualRowvacuation.l0 k a1 (([] : List Int)) t586 t587 (t587.length : Int) 0 l0_0))) else (some (0, false))) = some (r1, r2) := H
  have A3 := Aside0.mk A30
  clear A30
  by_cases c4 : t582 = true
  · subst c4
    have H1 : ((impl_Poset_high.f k l0_0).bind fun t586 => ((impl_vacuation.f k t586).bind fun t587 => (impl_DualRowvacuation.l0 k a1 (([] : List Int)) t586 t587 (t587.length : Int) 0 l0_0))) = some (r1, r2) := by rw [if_pos rfl] at H; exact H
    clear H
    have H := H1
    clear H1
    obtain ⟨y583, hy583⟩ : ∃ y_ : List Int, y_ = (([] : List Int)) := ⟨_, rfl⟩
    replace H : ((impl_Poset_high.f k l0_0).bind fun t586 => ((impl_vacuation.f k t586).bind fun t587 => (impl_DualRowvacuation.l0 k a1 y583 t586 t587 (t587.length : Int) 0 l0_0))) = some (r1, r2) := by first | (rw [hy583]; with_reducible exact H) | (have H2_ := (Option.bind_some _ _).symm.trans H; rw [hy583]; with_reducible exact H2_) | (have H2_ := (Option.bind_some _ _).symm.trans H; with_reducible exact H2_) | with_reducible exact H | (rw [hy583]; exact H) | exact H
    have Ny583 := Aside0.mk hy583
    clear hy583
    replace H := Option.bind_eq_some_iff.mp H
    obtain ⟨t586, A50, H⟩ := H
    replace H : ((impl_vacuation.f k t586).bind fun t587 => (impl_DualRowvacuation.l0 k a1 y583 t586 t587 (t587.length : Int) 0 l0_0)) = some (r1, r2) := H
    have A5 := Aside0.mk A50
    clear A50
    replace H := Option.bind_eq_some_iff.mp H
    obtain ⟨t587, A60, H⟩ := H
    replace H : (impl_DualRowvacuation.l0 k a1 y583 t586 t587 (t587.length : Int) 0 l0_0) = some (r1, r2) := H
    have A6 := Aside0.mk A60
    clear A60
    have H' := Aside0.mk H
    clear H
    go_enter Try.func31, Try.ntmps31
    go_wp2_with (first | ((with_reducible refine gate_dst (N := 2) rfl ?_); refine box_event ?hg (N := 2) ?hd (cs := #[.slice A0_0 l0_0.length c0_0]) (t := 28) ?hr ?_; (case hd => rfl); (case hg => rfl); (case hr => first | (go_simp; done) | (go_simp; rfl)); intro gb581 hg w7 hbox hb; have n0_ := Aside0.mk (below_step (by repeat (first | (with_reducible first | exact HB.out | apply below_alloc | apply pw_below_drewN | apply below_drew1) | exact HB.out)) hb); have n1_ := Aside0.mk (hbox); have n2_ := Aside0.mk ((by rw [hg]; exact (below_size (by repeat (first | (with_reducible first | exact HB.out | apply below_alloc | apply pw_below_drewN | apply below_drew1) | exact HB.out))) : w.heap.size ≤ gb581)); have n3_ := Aside0.mk ((by rw [hg]; exact (below_size (by repeat (first | (with_reducible first | exact HB.out | apply below_alloc | apply pw_below_drewN | apply below_drew1) | exact HB.out))) : w.heap.size ≤ gb581)); clear HB; have HB := n0_; have BK581 := n1_; have GW581 := n2_; have GE581 := n3_; clear n0_ n1_ n2_ n3_; clear hb hbox hg; have hcz8_0 : w7.cell? ⟨gb581, 0, none⟩ = some (.slice A0_0 l0_0.length c0_0) := (blk_cell BK581.out 0).trans rfl; have hfz8_0 := blk_frozen BK581.out 0) | ((with_reducible refine gate_callee (f := 50) rfl ?_); refine goesL_ (some 12) rfl rfl Try.func50 (by kernel_rfl) rfl #[.agg #[.slice A0_0 l0_0.length c0_0], .int .i64 a1] rfl (by (try simp only [List.map_toArray, List.map_cons, List.map_nil]); first | done | rfl | (simp only [List.length_drop, List.length_take]; rfl)) ?_; (with_reducible refine (impl_isRankedIdeal.calls k _ _ l0_0 a1 true _ ?side1 ?side2 A3.out).mono ?_); (case side1 => repeat (first | exact (Kd.C_below HR0_0.out HB.out) | (with_reducible refine Kd.C_alloc ?_ _) | (with_reducible refine Kd.C_drewN ?_ _) | (with_reducible refine Kd.C_drew ?_))); (case side2 => exact HC0_0.out); rintro e w9 ⟨rfl, hb⟩; refine ⟨_, rfl, ?_⟩; have n0_ := Aside0.mk (blk_below (g := gb581) (o := .cells #[.slice A0_0 l0_0.length c0_0] 28 (0, 0)) (by (with_reducible repeat (first | refine blk_drewN ?_ _ | refine blk_drew ?_ | refine blk_alloc ?_ _)); exact BK581.out) hb); have n1_ := Aside0.mk (below_step (by repeat (first | (with_reducible first | exact HB.out | apply below_alloc | apply pw_below_drewN | apply below_drew1 | refine below_set ?_ GE581.out) | exact HB.out)) hb); clear BK581; clear HB; have BK581 := n0_; have HB := n1_; clear n0_ n1_; (try clear hb); (try clear hb2); (try clear hk); (try clear hi)) | ((with_reducible refine gate_dst (N := 14) rfl ?_); refine Kd.R_lit (Kd.int .i64) _ 3 ?hg (N := 14) ?hd (xs := ([] : List Int)) (inner := []) (ok := fun _ => True) (okp := fun _ => True) ?hr ?hp (fun _ hk => hk) trivial (Below.refl _ _) (Nat.le_refl _) (by simp) ?_; (case hd => rfl); (case hg => rfl); (case hr => first | (go_simp; done) | (go_simp; rfl)); (case hp => exact (Reps.none _ _)); intro v584 w10 ho11 hb hg_ hnew_; clear hg_ hnew_; (first | rw [← Ny583.out] at ho11 | (simp only [Int.reduceToNat] at ho11; rw [← Ny583.out] at ho11)); have n0_ := Aside0.mk (Kd.R_lower ho11 (below_size (by repeat (first | (with_reducible first | exact HB.out | apply below_alloc | apply pw_below_drewN | apply below_drew1 | refine below_set ?_ GE581.out) | exact HB.out)))); have n1_ := Aside0.mk (blk_below (g := gb581) (o := .cells #[.slice A0_0 l0_0.length c0_0] 28 (0, 0)) (by (with_reducible repeat (first | refine blk_drewN ?_ _ | refine blk_drew ?_ | refine blk_alloc ?_ _)); exact BK581.out) hb); have n2_ := Aside0.mk (below_step (by repeat (first | (with_reducible first | exact HB.out | apply below_alloc | apply pw_below_drewN | apply below_drew1 | refine below_set ?_ GE581.out) | exact HB.out)) hb); clear BK581; clear HB; have HO585 := n0_; have BK581 := n1_; have HB := n2_; clear n0_ n1_ n2_; clear hb ho11; have hcz12_0 : w10.cell? ⟨gb581, 0, none⟩ = some (.slice A0_0 l0_0.length c0_0) := (blk_cell BK581.out 0).trans rfl; have hfz12_0 := blk_frozen BK581.out 0) | ((with_reducible refine gate_callee (f := 67) rfl ?_); refine goesL_ (some 16) rfl rfl Try.func67 (by kernel_rfl) rfl #[.agg #[.slice A0_0 l0_0.length c0_0]] rfl (by (try simp only [List.map_toArray, List.map_cons, List.map_nil]); first | done | rfl | (simp only [List.length_drop, List.length_take]; rfl)) ?_; (with_reducible refine (impl_Poset_high.calls k _ _ l0_0 t586 _ ?side1 ?side2 A5.out).mono ?_); (case side1 => repeat (first | exact (Kd.C_below HR0_0.out HB.out) | (with_reducible refine Kd.C_alloc ?_ _) | (with_reducible refine Kd.C_drewN ?_ _) | (with_reducible refine Kd.C_drew ?_))); (case side2 => exact HC0_0.out); rintro e w13 ⟨rfl, hb⟩; refine ⟨_, rfl, ?_⟩; have n0_ := Aside0.mk (Kd.R_below (by (with_reducible repeat (first | apply Kd.R_alloc | apply Kd.R_drewN | apply Kd.R_drew)); exact HO585.out) hb); have n1_ := Aside0.mk (blk_below (g := gb581) (o := .cells #[.slice A0_0 l0_0.length c0_0] 28 (0, 0)) (by (with_reducible repeat (first | refine blk_drewN ?_ _ | refine blk_drew ?_ | refine blk_alloc ?_ _)); exact BK581.out) hb); have n2_ := Aside0.mk (below_step (by repeat (first | (with_reducible first | exact HB.out | apply below_alloc | apply pw_below_drewN | apply below_drew1 | refine below_set ?_ GE581.out) | exact HB.out)) hb); clear HO585; clear BK581; clear HB; have HO585 := n0_; have BK581 := n1_; have HB := n2_; clear n0_ n1_ n2_; (try clear hb); (try clear hb2); (try clear hk); (try clear hi)) | ((with_reducible refine gate_callee (f := 66) rfl ?_); refine goesL_ (some 18) rfl rfl Try.func66 (by kernel_rfl) rfl #[.int .i64 t586] rfl (by (try simp only [List.map_toArray, List.map_cons, List.map_nil]); first | done | rfl | (simp only [List.length_drop, List.length_take]; rfl)) ?_; (with_reducible refine (impl_vacuation.calls k t586 t587 _ A6.out).mono ?_); rintro e w14 ⟨v588, rfl, ho0, hb⟩; refine ⟨_, rfl, ?_⟩; have n0_ := Aside0.mk (Kd.R_elder' (by (with_reducible repeat (first | apply Kd.R_alloc | apply Kd.R_drewN | apply Kd.R_drew)); exact HO585.out) (Kd.R_base ho0) hb); have n1_ := Aside0.mk (Kd.R_lower (Kd.R_new' ho0 (Kd.R_lt (by (with_reducible repeat (first | apply Kd.R_alloc | apply Kd.R_drewN | apply Kd.R_drew)); exact HO585.out))) (below_size (by repeat (first | (with_reducible first | exact HB.out | apply below_alloc | apply pw_below_drewN | apply below_drew1 | refine below_set ?_ GE581.out) | exact HB.out)))); have n2_ := Aside0.mk (blk_below (g := gb581) (o := .cells #[.slice A0_0 l0_0.length c0_0] 28 (0, 0)) (by (with_reducible repeat (first | refine blk_drewN ?_ _ | refine blk_drew ?_ | refine blk_alloc ?_ _)); exact BK581.out) hb); have n3_ := Aside0.mk (below_step (by repeat (first | (with_reducible first | exact HB.out | apply below_alloc | apply pw_below_drewN | apply below_drew1 | refine below_set ?_ GE581.out) | exact HB.out)) hb); clear HO585; clear BK581; clear HB; have HO585 := n0_; have HO589 := n1_; have BK581 := n2_; have HB := n3_; clear n0_ n1_ n2_ n3_; (try clear hb); (try clear hb2); (try clear hk); (try clear hi); (try clear ho0); obtain ⟨Ao15, co15, eo15⟩ := Kd.R_slice HO589.out; subst eo15))
    go_loopg [6, 20] k (fun kq v6 v20 w' => ∃ (x6_1 : List Int) (x20_1 : Int), v20 = .int .i64 x20_1 ∧ Aside0 (impl_DualRowvacuation.l0 kq a1 x6_1 t586 t587 (t587.length : Int) x20_1 l0_0 = some (r1, r2)) ∧ Aside0 (kq ≤ k) ∧ Aside0 (Kd.R (Kd.int .i64) 3 w' w.heap.size (fun k_ => some k_ ≠ ((.slice Ao15 t587.length co15) : Value).ownBlock) v6 x6_1) ∧ Aside0 (Kd.R (Kd.int .i64) 3 w' w.heap.size (fun k_ => some k_ ≠ (v6 : Value).ownBlock) (.slice Ao15 t587.length co15) t587) ∧ Aside0 (w'.heap[gb581]? = some (.cells #[(.slice A0_0 l0_0.length c0_0)] 28 (0, 0))) ∧ Aside0 (Below w.heap.size w w'))
    case atStart => exact ⟨(y583), (0), (by first | rfl | (simp; done) | (simp [*]; done)), H', ⟨Nat.le_refl _⟩, ⟨by (with_reducible repeat (first | apply Kd.R_alloc | apply Kd.R_drewN | apply Kd.R_drew)); exact Kd.R_mono HO585.out (fun _ hk => hk.2)⟩, ⟨by (with_reducible repeat (first | apply Kd.R_alloc | apply Kd.R_drewN | apply Kd.R_drew)); exact Kd.R_mono HO589.out (fun _ hk => hk.2)⟩, ⟨by (with_reducible repeat (first | refine blk_drewN ?_ _ | refine blk_drew ?_ | refine blk_alloc ?_ _)); exact BK581.out⟩, ⟨by repeat (first | (with_reducible first | exact HB.out | apply below_alloc | apply pw_below_drewN | apply below_drew1 | refine below_set ?_ GE581.out) | exact HB.out)⟩⟩
    case round =>
      clear H'
      try clear p2
      try clear c3
      try clear c4
      try clear c5
      try clear c6
      try clear hcz12_0
      try clear hcz8_0
      try clear hfz12_0
      try clear hfz8_0
      obtain ⟨x6_1, x20_1, rfl, HA, HK1, HO_6, HO_18, BK581, HB⟩ := hrel
      cases gk with
      | zero => exact absurd HA.out (by simp [impl_DualRowvacuation.l0])
      | succ k1 =>
        have H := HA.out
        clear HA
        simp only [impl_DualRowvacuation.l0] at H
        by_cases c16 : x20_1 < (t587.length : Int)
        · rw [if_pos c16] at H
          have c16b0 : decide (x20_1 < (t587.length : Int)) = true := decide_eq_true c16
          clear c16
          by_cases c17 : 0 ≤ x20_1
          · rw [if_pos c17] at H
            have c17b0 : decide (0 ≤ x20_1) = true := decide_eq_true c17
            clear c17
            by_cases c18 : x20_1 < (t587.length : Int)
            · rw [if_pos c18] at H
              have c18b0 : decide (x20_1 < (t587.length : Int)) = true := decide_eq_true c18
              clear c18
              by_cases c19 : x6_1.length < 17592186044416
              · rw [if_pos c19] at H
                have LMc19 := Aside0.mk c19
                clear c19
                obtain ⟨y591, hy591⟩ : ∃ y_ : List Int, y_ = (x6_1 ++ [wrap64 (t586 - (rd t587 x20_1))]) := ⟨_, rfl⟩
                replace H : (impl_DualRowvacuation.l0 k1 a1 y591 t586 t587 (t587.length : Int) (wrap64 (x20_1 + 1)) l0_0) = some (r1, r2) := by first | (rw [hy591]; with_reducible exact H) | (have H2_ := (Option.bind_some _ _).symm.trans H; rw [hy591]; with_reducible exact H2_) | (have H2_ := (Option.bind_some _ _).symm.trans H; with_reducible exact H2_) | with_reducible exact H | (rw [hy591]; exact H) | exact H
                have Ny591 := Aside0.mk hy591
                clear hy591
                have H' := Aside0.mk H
                clear H
                have p590 : 0 ≤ (x20_1 : Int) := of_decide_eq_true (by first | (with_reducible assumption) | assumption)
                have q590 : x20_1 < (t587.length : Int) := of_decide_eq_true (by first | (with_reducible assumption) | assumption)
                obtain ⟨ad590, e590, hx590_0⟩ := Kd.at_int (Kd.R_reads' HO_18.out).2.2 x20_1 p590 q590
                cases e590
                replace p590 := eq_true p590
                replace q590 := eq_true q590
                go_wp2_with (first | ((with_reducible refine gate_builtin (b := .append) (xs := #[.tmp 24, .tmp 28]) rfl ?_); at_builtin; refine Kd.R_append (Kd.int .i64) (w0 := w) w.heap.size rfl (.tmp 24) (.tmp 28) 22 3 (.int .i64 0) 8 rfl Try.underlying22 info3 rfl (by decide) (by omega) u6 x6_1 (wrap64 (t586 - (rd t587 x20_1))) [.int .i64 (wrap64 (t586 - (rd t587 x20_1)))] (fun k_ => some k_ ≠ (.slice (some ad590) t587.length co15 : Value).ownBlock) (fun _ => False) rfl rfl ?aP (fun _ hk => hk.elim) ?aF ?aO ?aB ?aS ?aL ?_; (case aP => exact rfl); (case aB => exact (by repeat (first | (with_reducible first | exact HB.out | apply below_alloc | apply pw_below_drewN | apply below_drew1 | refine below_set ?_ GE581.out) | exact HB.out))); (case aF => exact (fun k_ hk => Kd.fresh' (Kd.R_lt (by (with_reducible repeat (first | apply Kd.R_alloc | apply Kd.R_drewN | apply Kd.R_drew)); exact HO_18.out)) k_ hk)); (case aO => exact (by (with_reducible repeat (first | apply Kd.R_alloc | apply Kd.R_drewN | apply Kd.R_drew)); exact HO_6.out)); (case aS => exact (below_size (by repeat (first | (with_reducible first | exact HB.out | apply below_alloc | apply pw_below_drewN | apply below_drew1 | refine below_set ?_ GE581.out) | exact HB.out)))); (case aL => have := LMc19.out; omega); intro v592 w20 ho hb hg hat; rw [← Ny591.out] at ho; have n0_ := Aside0.mk (Kd.R_after (ok := (fun _ => True)) (by (with_reducible repeat (first | apply Kd.R_alloc | apply Kd.R_drewN | apply Kd.R_drew)); exact Kd.R_mono HO_18.out (fun _ hk => ⟨trivial, hk⟩)) hg hat); have n1_ := Aside0.mk (blk_grown (g := gb581) (o := .cells #[.slice A0_0 l0_0.length c0_0] 28 (0, 0)) (by (with_reducible repeat (first | refine blk_drewN ?_ _ | refine blk_drew ?_ | refine blk_alloc ?_ _)); exact BK581.out) hg (Kd.R_ne HO_6.out BK581.out (by decide))); have n2_ := Aside0.mk (hb); have n3_ := Aside0.mk (ho); clear HO_18; clear BK581; clear HB; clear HO_6; have HO_18 := n0_; have BK581 := n1_; have HB := n2_; have HO593 := n3_; clear n0_ n1_ n2_ n3_; clear ho hb hg hat))
                go_roundg k1
                case measure => have := HK1.out; omega
                case rel => exact ⟨(y591), (wrap64 (x20_1 + 1)), (by first | rfl | (simp; done) | (simp [*]; done)), H', ⟨by have := HK1.out; omega⟩, ⟨by (with_reducible repeat (first | apply Kd.R_alloc | apply Kd.R_drewN | apply Kd.R_drew)); exact HO593.out⟩, ⟨by (with_reducible repeat (first | apply Kd.R_alloc | apply Kd.R_drewN | apply Kd.R_drew)); exact Kd.R_mono HO_18.out (fun _ hk => hk.2)⟩, ⟨by (with_reducible repeat (first | refine blk_drewN ?_ _ | refine blk_drew ?_ | refine blk_alloc ?_ _)); exact BK581.out⟩, ⟨by repeat (first | (with_reducible first | exact HB.out | apply below_alloc | apply pw_below_drewN | apply below_drew1 | refine below_set ?_ GE581.out) | exact HB.out)⟩⟩
              · rw [if_neg c19] at H
                exact absurd H (by simp)
            · rw [if_neg c18] at H
              exact absurd H (by simp)
          · rw [if_neg c17] at H
            exact absurd H (by simp)
        · rw [if_neg c16] at H
          have c16b0 : decide (x20_1 < (t587.length : Int)) = false := decide_eq_false c16
          clear c16
          replace H := Option.bind_eq_some_iff.mp H
          obtain ⟨t594, A210, H⟩ := H
          replace H : (some (t594, true)) = some (r1, r2) := H
          have A21 := Aside0.mk A210
          clear A210
          simp only [Option.some.injEq, Prod.mk.injEq] at H
          obtain ⟨rfl, rfl⟩ := H
          have hcz22_0 : wr.cell? ⟨gb581, 0, none⟩ = some (.slice A0_0 l0_0.length c0_0) := (blk_cell BK581.out 0).trans rfl
          have hfz22_0 := blk_frozen BK581.out 0
          obtain ⟨Ao23, co23, eo23⟩ := Kd.R_slice HO_6.out
          subst eo23
          go_wp2_with (first | ((with_reducible refine gate_callee (f := 51) rfl ?_); refine goesL_ (some 34) rfl rfl Try.func51 (by kernel_rfl) rfl #[.agg #[.slice A0_0 l0_0.length c0_0], .int .i64 a1, .slice Ao23 x6_1.length co23] rfl (by (try simp only [List.map_toArray, List.map_cons, List.map_nil]); first | done | rfl | (simp only [List.length_drop, List.length_take]; rfl)) ?_; (with_reducible refine (impl_Poset_toggleRanks.calls k1 _ _ l0_0 a1 _ _ x6_1 t594 _ ?side1 ?side2 ?side3 ?side4 A21.out).mono ?_); (case side1 => repeat (first | exact (Kd.C_below HR0_0.out HB.out) | (with_reducible refine Kd.C_alloc ?_ _) | (with_reducible refine Kd.C_drewN ?_ _) | (with_reducible refine Kd.C_drew ?_))); (case side2 => exact HC0_0.out); (case side3 => repeat (first | exact (Kd.R_reads' HO_6.out).2.2 | (with_reducible refine Kd.C_alloc ?_ _) | (with_reducible refine Kd.C_drewN ?_ _) | (with_reducible refine Kd.C_drew ?_))); (case side4 => exact (Kd.R_reads' HO_6.out).2.1); rintro e w24 ⟨rfl, hb⟩; refine ⟨_, rfl, ?_⟩; have n0_ := Aside0.mk (Kd.R_below (by (with_reducible repeat (first | apply Kd.R_alloc | apply Kd.R_drewN | apply Kd.R_drew)); exact HO_6.out) hb); have n1_ := Aside0.mk (Kd.R_below (by (with_reducible repeat (first | apply Kd.R_alloc | apply Kd.R_drewN | apply Kd.R_drew)); exact HO_18.out) hb); have n2_ := Aside0.mk (blk_below (g := gb581) (o := .cells #[.slice A0_0 l0_0.length c0_0] 28 (0, 0)) (by (with_reducible repeat (first | refine blk_drewN ?_ _ | refine blk_drew ?_ | refine blk_alloc ?_ _)); exact BK581.out) hb); have n3_ := Aside0.mk (below_step (by repeat (first | (with_reducible first | exact HB.out | apply below_alloc | apply pw_below_drewN | apply below_drew1 | refine below_set ?_ GE581.out) | exact HB.out)) hb); clear HO_6; clear HO_18; clear BK581; clear HB; have HO_6 := n0_; have HO_18 := n1_; have BK581 := n2_; have HB := n3_; clear n0_ n1_ n2_ n3_; (try clear hb); (try clear hb2); (try clear hk); (try clear hi)))
          go_ret2
          exact ⟨by first | rfl | (simp [errW_none, errW_some] <;> rfl) | (simp [*, errW_none, errW_some] <;> rfl), by repeat (first | (with_reducible first | exact HB.out | apply below_alloc | apply pw_below_drewN | apply below_drew1 | refine below_set ?_ GE581.out) | exact HB.out)⟩
  · replace c4 := Bool.eq_false_iff.mpr c4
    subst c4
    have H1 : (some (0, false)) = some (r1, r2) := by rw [if_neg (show ¬ (false = true) by decide)] at H; exact H
    clear H
    have H := H1
    clear H1
    simp only [Option.some.injEq, Prod.mk.injEq] at H
    obtain ⟨rfl, rfl⟩ := H
    go_enter Try.func31, Try.ntmps31
    go_wp2_with (first | ((with_reducible refine gate_dst (N := 2) rfl ?_); refine box_event ?hg (N := 2) ?hd (cs := #[.slice A0_0 l0_0.length c0_0]) (t := 28) ?hr ?_; (case hd => rfl); (case hg => rfl); (case hr => first | (go_simp; done) | (go_simp; rfl)); intro gb581 hg w25 hbox hb; have n0_ := Aside0.mk (below_step (by repeat (first | (with_reducible first | exact HB.out | apply below_alloc | apply pw_below_drewN | apply below_drew1) | exact HB.out)) hb); have n1_ := Aside0.mk (hbox); have n2_ := Aside0.mk ((by rw [hg]; exact (below_size (by repeat (first | (with_reducible first | exact HB.out | apply below_alloc | apply pw_below_drewN | apply below_drew1) | exact HB.out))) : w.heap.size ≤ gb581)); have n3_ := Aside0.mk ((by rw [hg]; exact (below_size (by repeat (first | (with_reducible first | exact HB.out | apply below_alloc | apply pw_below_drewN | apply below_drew1) | exact HB.out))) : w.heap.size ≤ gb581)); clear HB; have HB := n0_; have BK581 := n1_; have GW581 := n2_; have GE581 := n3_; clear n0_ n1_ n2_ n3_; clear hb hbox hg; have hcz26_0 : w25.cell? ⟨gb581, 0, none⟩ = some (.slice A0_0 l0_0.length c0_0) := (blk_cell BK581.out 0).trans rfl; have hfz26_0 := blk_frozen BK581.out 0) | ((with_reducible refine gate_callee (f := 50) rfl ?_); refine goesL_ (some 12) rfl rfl Try.func50 (by kernel_rfl) rfl #[.agg #[.slice A0_0 l0_0.length c0_0], .int .i64 a1] rfl (by (try simp only [List.map_toArray, List.map_cons, List.map_nil]); first | done | rfl | (simp only [List.length_drop, List.length_take]; rfl)) ?_; (with_reducible refine (impl_isRankedIdeal.calls k _ _ l0_0 a1 false _ ?side1 ?side2 A3.out).mono ?_); (case side1 => repeat (first | exact (Kd.C_below HR0_0.out HB.out) | (with_reducible refine Kd.C_alloc ?_ _) | (with_reducible refine Kd.C_drewN ?_ _) | (with_reducible refine Kd.C_drew ?_))); (case side2 => exact HC0_0.out); rintro e w27 ⟨rfl, hb⟩; refine ⟨_, rfl, ?_⟩; have n0_ := Aside0.mk (blk_below (g := gb581) (o := .cells #[.slice A0_0 l0_0.length c0_0] 28 (0, 0)) (by (with_reducible repeat (first | refine blk_drewN ?_ _ | refine blk_drew ?_ | refine blk_alloc ?_ _)); exact BK581.out) hb); have n1_ := Aside0.mk (below_step (by repeat (first | (with_reducible first | exact HB.out | apply below_alloc | apply pw_below_drewN | apply below_drew1 | refine below_set ?_ GE581.out) | exact HB.out)) hb); clear BK581; clear HB; have BK581 := n0_; have HB := n1_; clear n0_ n1_; (try clear hb); (try clear hb2); (try clear hk); (try clear hi)))
    go_ret2
    exact ⟨by first | rfl | (simp [errW_none, errW_some] <;> rfl) | (simp [*, errW_none, errW_some] <;> rfl), by repeat (first | (with_reducible first | exact HB.out | apply below_alloc | apply pw_below_drewN | apply below_drew1 | refine below_set ?_ GE581.out) | exact HB.out)⟩
end Go.Proofs.Ytpdgiinedbdamaa.L
end
section
namespace Go.Proofs.Ytpdgiinedbdamaa.M
open Go.RowKit Go.Proofs.YtpdgiinedbdamaaW.PrintWords Go.Proofs.YtpdgiinedbdamaaW.PrintLast Go.Proofs.YtpdgiinedbdamaaW.PrintMore
theorem wrap_id {x : Int} (h0 : -9223372036854775808 ≤ x) (h1 : x ≤ 9223372036854775807) : wrap64 x = x := by unfold wrap64; omega
theorem wrap_succ {i : Nat} (h : i < 9223372036854775807) : wrap64 ((i : Int) + 1) = ((i + 1 : Nat) : Int) := by unfold wrap64; omega
theorem rd_get {l : List Int} {i : Nat} (h : i < l.length) : rd l (i : Int) = l[i] := by simp [rd, List.getD_eq_getElem?_getD, h]
theorem ev_ite {α : Type} {c : Prop} [Decidable c] {f g : Nat → Option α} {r : α} (h1 : c → Ev f r) (h2 : ¬ c → Ev g r) : Ev (fun k => if c then f k else g k) r := by
  by_cases h : c
  · obtain ⟨K, hK⟩ := h1 h; exact ⟨K, fun k hk => by simp only [if_pos h]; exact hK k hk⟩
  · obtain ⟨K, hK⟩ := h2 h; exact ⟨K, fun k hk => by simp only [if_neg h]; exact hK k hk⟩
theorem ev_pos {α : Type} {c : Prop} [Decidable c] {f g : Nat → Option α} {r : α} (h : c) (h1 : Ev f r) : Ev (fun k => if c then f k else g k) r := ev_ite (fun _ => h1) (fun h2 => absurd h h2)
theorem ev_neg {α : Type} {c : Prop} [Decidable c] {f g : Nat → Option α} {r : α} (h : ¬ c) (h1 : Ev g r) : Ev (fun k => if c then f k else g k) r := ev_ite (fun h2 => absurd h2 h) (fun _ => h1)
theorem ev_call {α β : Type} {x : Option α} {a : α} {f : Nat → α → Option β} {r : β} (h : x = some a) (k : Ev (fun n => f n a) r) : Ev (fun n => x.bind (f n)) r := by subst h; simpa using k
def inB (x lo hi : Int) : Bool := decide (lo ≤ x) && decide (x ≤ hi)
theorem inB_iff {x lo hi : Int} : inB x lo hi = true ↔ lo ≤ x ∧ x ≤ hi := by simp [inB]
end Go.Proofs.Ytpdgiinedbdamaa.M
end
section
namespace Go.Proofs.Ytpdgiinedbdamaa.M
open Go.RowKit Go.Proofs.YtpdgiinedbdamaaW.PrintWords Go.Proofs.YtpdgiinedbdamaaW.PrintLast Go.Proofs.YtpdgiinedbdamaaW.PrintMore
def sd (a b : Nat) : Nat := a ^^^ (a &&& b)
theorem sd_bit (a b i : Nat) : (sd a b).testBit i = (a.testBit i && !b.testBit i) := by
  unfold sd; rw [Nat.testBit_xor, Nat.testBit_and]; cases a.testBit i <;> cases b.testBit i <;> rfl
theorem sd_zero {a b : Nat} : sd a b = 0 ↔ ∀ i, a.testBit i = true → b.testBit i = true := by
  constructor
  · intro h i ha
    have := sd_bit a b i
    rw [h, Nat.zero_testBit, ha] at this
    cases hb : b.testBit i
    · rw [hb] at this; simp at this
    · rfl
  · intro h
    apply Nat.eq_of_testBit_eq
    intro i
    rw [sd_bit, Nat.zero_testBit]
    cases ha : a.testBit i
    · rfl
    · rw [h i ha]; rfl
theorem sd_le (a b : Nat) : sd a b ≤ a := by
  have e : sd a b = sd a b &&& a := by
    apply Nat.eq_of_testBit_eq
    intro i
    rw [Nat.testBit_and, sd_bit]
    cases a.testBit i <;> cases b.testBit i <;> rfl
  rw [e]; exact Nat.and_le_right
theorem sd_lt {a : Nat} (b : Nat) {n : Nat} (h : a < 2 ^ n) : sd a b < 2 ^ n := Nat.lt_of_le_of_lt (sd_le a b) h
theorem wrap_nat {x : Nat} (h : x < 2 ^ 63) : IntKind.i64.wrap (x : Int) = (x : Int) := by
  rw [IntKind.wrap_i64]
  have : (x : Int) < 9223372036854775808 := by
    have h2 : (2 : Nat) ^ 63 = 9223372036854775808 := by decide
    omega
  omega
theorem ofInt_nat {a : Nat} (h : a < 2 ^ 63) : (BitVec.ofInt IntKind.i64.bits (a : Int)).toNat = a := by
  have e : IntKind.i64.bits = 64 := rfl
  rw [e, BitVec.ofInt_natCast, BitVec.toNat_ofNat]
  exact Nat.mod_eq_of_lt (Nat.lt_of_lt_of_le h (by decide))
theorem bits_or {a b : Nat} (ha : a < 2 ^ 63) (hb : b < 2 ^ 63) : Go.bits .or .i64 (a : Int) (b : Int) = ((a ||| b : Nat) : Int) := by
  simp only [Go.bits, BitVec.toNat_or, ofInt_nat ha, ofInt_nat hb]
  exact wrap_nat (Nat.or_lt_two_pow ha hb)
theorem bits_and {a b : Nat} (ha : a < 2 ^ 63) (hb : b < 2 ^ 63) : Go.bits .and .i64 (a : Int) (b : Int) = ((a &&& b : Nat) : Int) := by
  simp only [Go.bits, BitVec.toNat_and, ofInt_nat ha, ofInt_nat hb]
  exact wrap_nat (Nat.and_lt_two_pow _ hb)
theorem bits_xor {a b : Nat} (ha : a < 2 ^ 63) (hb : b < 2 ^ 63) : Go.bits .xor .i64 (a : Int) (b : Int) = ((a ^^^ b : Nat) : Int) := by
  simp only [Go.bits, BitVec.toNat_xor, ofInt_nat ha, ofInt_nat hb]
  exact wrap_nat (Nat.xor_lt_two_pow ha hb)
theorem bits_andNot {a b : Nat} (ha : a < 2 ^ 63) (hb : b < 2 ^ 63) : Go.bits .andNot .i64 (a : Int) (b : Int) = ((sd a b : Nat) : Int) := by
  have e : (BitVec.ofInt IntKind.i64.bits (a : Int) &&& ~~~(BitVec.ofInt IntKind.i64.bits (b : Int))).toNat = sd a b := by
    apply Nat.eq_of_testBit_eq
    intro i
    rw [BitVec.toNat_and, Nat.testBit_and, ofInt_nat ha, sd_bit]
    cases hai : a.testBit i
    · rfl
    · have hi : i < 64 := by
        apply Nat.lt_of_not_le; intro h
        have : a < 2 ^ i := Nat.lt_of_lt_of_le ha (Nat.pow_le_pow_right (by decide) (by omega))
        rw [Nat.testBit_lt_two_pow this] at hai; cases hai
      have e2 : (~~~(BitVec.ofInt IntKind.i64.bits (b : Int))).toNat.testBit i = (~~~(BitVec.ofInt IntKind.i64.bits (b : Int))).getLsbD i := rfl
      have e3 : (BitVec.ofInt IntKind.i64.bits (b : Int)).getLsbD i = b.testBit i := by
        show (BitVec.ofInt IntKind.i64.bits (b : Int)).toNat.testBit i = _
        rw [ofInt_nat hb]
      rw [e2, BitVec.getLsbD_not, e3]
      have : decide (i < IntKind.i64.bits) = true := decide_eq_true hi
      rw [this, Bool.true_and]
  simp only [Go.bits]
  rw [e]
  exact wrap_nat (sd_lt b ha)
theorem shl_one {i : Nat} (h : i < 63) : shl .i64 1 (i : Int) = ((2 ^ i : Nat) : Int) := by
  unfold shl
  have e : min (i : Int).toNat IntKind.i64.bits = i := by
    have : IntKind.i64.bits = 64 := rfl
    rw [this, Int.toNat_natCast]; omega
  rw [e, Int.one_mul]
  have : ((2 : Int) ^ i) = ((2 ^ i : Nat) : Int) := by simp
  rw [this]
  exact wrap_nat (Nat.pow_lt_pow_right (by decide) h)
theorem shl_one' {i : Nat} (h : i < 62) : wrap64 (shl .i64 1 (i : Int) - 1) = ((2 ^ i - 1 : Nat) : Int) := by
  rw [shl_one (by omega)]
  have h1 : 0 < 2 ^ i := Nat.two_pow_pos i
  have h2 : 2 ^ i ≤ 2 ^ 62 := Nat.pow_le_pow_right (by decide) (by omega)
  have h3 : (2 : Nat) ^ 62 = 4611686018427387904 := by decide
  rw [wrap_id (by omega) (by omega)]; omega
theorem shr_nat {a i : Nat} (h : i ≤ 64) : shr .i64 (a : Int) (i : Int) = ((a / 2 ^ i : Nat) : Int) := by
  unfold shr
  have e : min (i : Int).toNat IntKind.i64.bits = i := by
    have : IntKind.i64.bits = 64 := rfl
    rw [this, Int.toNat_natCast]; omega
  rw [e]; simp
theorem bit_mod {a i : Nat} (h : i ≤ 64) : (Int.tmod (shr .i64 (a : Int) (i : Int)) 2 == 1) = a.testBit i := by
  rw [shr_nat h]
  have : Int.tmod ((a / 2 ^ i : Nat) : Int) 2 = ((a / 2 ^ i % 2 : Nat) : Int) := by
    rw [show (2 : Int) = ((2 : Nat) : Int) from rfl, Int.ofNat_tmod]
  rw [this, Nat.testBit_eq_decide_div_mod_eq, Bool.eq_iff_iff, beq_iff_eq, decide_eq_true_eq]
  omega
theorem bit_mod' {a i : Nat} (h : i ≤ 64) : (Int.tmod (shr .i64 (a : Int) (i : Int)) 2 = 1) ↔ a.testBit i = true := by
  rw [← bit_mod h]; simp
theorem bit_and {a i : Nat} (ha : a < 2 ^ 63) (h : i ≤ 64) : (Go.bits .and .i64 (shr .i64 (a : Int) (i : Int)) 1 == 1) = a.testBit i := by
  rw [shr_nat h, show (1 : Int) = ((1 : Nat) : Int) from rfl, bits_and (Nat.lt_of_le_of_lt (Nat.div_le_self _ _) ha) (by decide), Nat.and_one_is_mod, Nat.testBit_eq_decide_div_mod_eq, Bool.eq_iff_iff, beq_iff_eq, decide_eq_true_eq]
  omega
theorem bit_lt {a i n : Nat} (h : a < 2 ^ n) (hi : a.testBit i = true) : i < n := by
  apply Nat.lt_of_not_le; intro h2
  rw [Nat.testBit_lt_two_pow (Nat.lt_of_lt_of_le h (Nat.pow_le_pow_right (by decide) h2))] at hi; cases hi
theorem lt63 {a n : Nat} (h : a < 2 ^ n) (hn : n ≤ 63) : a < 2 ^ 63 := Nat.lt_of_lt_of_le h (Nat.pow_le_pow_right (by decide) hn)
end Go.Proofs.Ytpdgiinedbdamaa.M
end
section
namespace Go.Proofs.Ytpdgiinedbdamaa.M
set_option linter.unusedVariables false
open Go.RowKit Go.Proofs.YtpdgiinedbdamaaW.PrintWords Go.Proofs.YtpdgiinedbdamaaW.PrintLast Go.Proofs.YtpdgiinedbdamaaW.PrintMore
def toI (p : List Nat) : List Int := p.map fun (x : Nat) => (x : Int)
@[simp] theorem toI_len (p : List Nat) : (toI p).length = p.length := by simp [toI]
@[simp] theorem toI_nil : toI [] = [] := rfl
theorem toI_app (p q : List Nat) : toI (p ++ q) = toI p ++ toI q := by simp [toI]
theorem toI_one (x : Nat) : toI [x] = [(x : Int)] := rfl
theorem toI_set (p : List Nat) (i x : Nat) : (toI p).set i (x : Int) = toI (p.set i x) := by simp [toI, List.map_set]
theorem toI_rep (n x : Nat) : List.replicate n (x : Int) = toI (List.replicate n x) := by simp [toI]
theorem rd_toI (p : List Nat) (i : Nat) : rd (toI p) (i : Int) = ((p.getD i 0 : Nat) : Int) := by
  simp only [rd, toI, Int.toNat_natCast, List.getD_eq_getElem?_getD, List.getElem?_map]
  cases p[i]? <;> simp
def less (p : List Nat) (i : Nat) : Nat := p.getD i 0
theorem less_out {p : List Nat} {i : Nat} (h : p.length ≤ i) : less p i = 0 := by simp [less, List.getD_eq_getElem?_getD, h]
theorem rd_less (p : List Nat) (i : Nat) : rd (toI p) (i : Int) = ((less p i : Nat) : Int) := rd_toI p i
structure Good (p : List Nat) : Prop where
  pos : 1 ≤ p.length
  le : p.length ≤ 10
  lt : ∀ i, i < p.length → less p i < 2 ^ i
  tr : ∀ i, i < p.length → ∀ j, (less p i).testBit j = true → ∀ m, (less p j).testBit m = true → (less p i).testBit m = true
theorem Good.bit {p : List Nat} (g : Good p) {i j : Nat} (h : (less p i).testBit j = true) : j < i ∧ i < p.length := by
  have hi : i < p.length := by
    apply Nat.lt_of_not_le; intro h2; rw [less_out h2, Nat.zero_testBit] at h; cases h
  exact ⟨bit_lt (g.lt i hi) h, hi⟩
theorem Good.lt10 {p : List Nat} (g : Good p) (i : Nat) : less p i < 2 ^ p.length := by
  by_cases hi : i < p.length
  · exact Nat.lt_of_lt_of_le (g.lt i hi) (Nat.pow_le_pow_right (by decide) (by omega))
  · rw [less_out (by omega)]; exact Nat.two_pow_pos _
theorem Good.lt63 {p : List Nat} (g : Good p) (i : Nat) : less p i < 2 ^ 63 := M.lt63 (g.lt10 i) (by have := g.le; omega)
theorem Good.tr' {p : List Nat} (g : Good p) {i j m : Nat} (h1 : (less p i).testBit j = true) (h2 : (less p j).testBit m = true) : (less p i).testBit m = true := g.tr i (g.bit h1).2 j h1 m h2
def okAt (l : List Int) (i : Nat) : Bool := inB (l.getD i 0) 0 ((2 ^ i - 1 : Nat) : Int) && (List.range i).all fun j => !((l.getD i 0).toNat.testBit j) || sd (l.getD j 0).toNat (l.getD i 0).toNat == 0
theorem okAt_def (l : List Int) (i : Nat) : okAt l i = (inB (l.getD i 0) 0 ((2 ^ i - 1 : Nat) : Int) && (List.range i).all fun j => !((l.getD i 0).toNat.testBit j) || sd (l.getD j 0).toNat (l.getD i 0).toNat == 0) := rfl
def goodB (l : List Int) : Bool := inB (l.length : Int) 1 10 && (List.range' 0 l.length).all (okAt l)
theorem okAt_nat {l : List Int} {i : Nat} (h : okAt l i = true) : ∃ a : Nat, l.getD i 0 = (a : Int) ∧ a < 2 ^ i := by
  simp only [okAt, Bool.and_eq_true, inB_iff] at h
  have := Nat.two_pow_pos i
  exact ⟨(l.getD i 0).toNat, by omega, by omega⟩
theorem goodB_of {l : List Int} (h : goodB l = true) : ∃ p, l = toI p ∧ Good p := by
  simp only [goodB, Bool.and_eq_true, inB_iff, List.all_eq_true, List.mem_range'_1] at h
  obtain ⟨⟨h1, h2⟩, h3⟩ := h
  have hn : ∀ i, i < l.length → okAt l i = true := fun i hi => h3 i (by omega)
  have e : l = toI (l.map Int.toNat) := by
    apply List.ext_getElem (by simp)
    intro i hi1 hi2
    obtain ⟨a, ha, _⟩ := okAt_nat (hn i hi1)
    have hg : l.getD i 0 = l[i] := by simp [List.getD_eq_getElem?_getD, hi1]
    simp only [toI, List.getElem_map]; omega
  refine ⟨l.map Int.toNat, e, ?_⟩
  have hl : ∀ i, less (l.map Int.toNat) i = (l.getD i 0).toNat := by
    intro i
    simp only [less, List.getD_eq_getElem?_getD, List.getElem?_map]
    cases l[i]? <;> simp
  refine ⟨by simp; omega, by simp; omega, fun i hi => ?_, fun i hi j hj m hm => ?_⟩
  · obtain ⟨a, ha, hb⟩ := okAt_nat (hn i (by simpa using hi))
    rw [hl, ha]; simpa using hb
  · have hi' : i < l.length := by simpa using hi
    have ho := hn i hi'
    obtain ⟨a, ha, hb⟩ := okAt_nat ho
    simp only [okAt, Bool.and_eq_true, List.all_eq_true, List.mem_range, Bool.or_eq_true, Bool.not_eq_true', beq_iff_eq] at ho
    rw [hl] at hj hm ⊢
    have hji : j < i := by rw [ha] at hj; exact bit_lt hb (by simpa using hj)
    rcases ho.2 j hji with hz | hz
    · rw [hj] at hz; cases hz
    · exact sd_zero.mp hz m hm
def items (m : Nat) : List Nat := (List.range 10).filter fun e => m.testBit e
theorem mem_items {m e : Nat} : e ∈ items m ↔ e < 10 ∧ m.testBit e = true := by simp [items]
theorem items_len (m : Nat) : (items m).length ≤ 10 := by
  have := List.length_filter_le (fun e => m.testBit e) (List.range 10)
  simpa [items] using this
def foldBits {α : Type} (n s : Nat) (f : α → Nat → α) (a : α) : α := (List.range n).foldl (fun a e => if s.testBit e = true then f a e else a) a
theorem foldl_items {α : Type} (s : Nat) (f : α → Nat → α) (a : α) : (items s).foldl f a = foldBits 10 s f a := by
  unfold items foldBits; rw [List.foldl_filter]
theorem foldl_none {α : Type} (s : Nat) (f : α → Nat → α) : ∀ (l : List Nat) (a : α), (∀ e ∈ l, s.testBit e = false) → l.foldl (fun a e => if s.testBit e = true then f a e else a) a = a
  | [], _, _ => rfl
  | x :: l, a, h => by
    rw [List.foldl_cons, if_neg (by rw [h x List.mem_cons_self]; simp)]
    exact foldl_none s f l a fun e he => h e (List.mem_cons_of_mem _ he)
theorem foldBits_le {α : Type} {n m s : Nat} (f : α → Nat → α) (a : α) (h : s < 2 ^ n) (hm : n ≤ m) : foldBits m s f a = foldBits n s f a := by
  unfold foldBits
  obtain ⟨d, rfl⟩ := Nat.exists_eq_add_of_le hm
  rw [List.range_add, List.foldl_append]
  apply foldl_none
  intro e he
  simp only [List.mem_map, List.mem_range] at he
  obtain ⟨x, _, rfl⟩ := he
  exact Nat.testBit_lt_two_pow (Nat.lt_of_lt_of_le h (Nat.pow_le_pow_right (by decide) (by omega)))
theorem foldl_items_n {α : Type} {n s : Nat} (f : α → Nat → α) (a : α) (h : s < 2 ^ n) (hn : n ≤ 10) : (items s).foldl f a = foldBits n s f a := by
  rw [foldl_items, foldBits_le f a h hn]
theorem foldBits_succ {α : Type} (n s : Nat) (f : α → Nat → α) (a : α) : foldBits (n + 1) s f a = if s.testBit n = true then f (foldBits n s f a) n else foldBits n s f a := by
  unfold foldBits; rw [List.range_succ, List.foldl_append]; rfl
theorem foldBits_inv {α : Type} (n s : Nat) (f : α → Nat → α) (a : α) (I : α → Prop) (h0 : I a) (h : ∀ a e, I a → e < n → s.testBit e = true → I (f a e)) : I (foldBits n s f a) := by
  induction n with
  | zero => exact h0
  | succ n ih =>
    have ih := ih fun a e ha he hs => h a e ha (by omega) hs
    rw [foldBits_succ]
    split
    · exact h _ _ ih (by omega) (by assumption)
    · exact ih
def full (p : List Nat) : Nat := 2 ^ p.length - 1
theorem full_lt (p : List Nat) : full p < 2 ^ p.length := by have := Nat.two_pow_pos p.length; unfold full; omega
theorem full_bit (p : List Nat) (i : Nat) : (full p).testBit i = decide (i < p.length) := by unfold full; rw [Nat.testBit_two_pow_sub_one]
def close (p : List Nat) (s : Nat) : Nat := foldBits p.length s (fun o e => o ||| less p e) s
theorem close_lt {p : List Nat} (g : Good p) {s : Nat} (h : s < 2 ^ p.length) : close p s < 2 ^ p.length :=
  foldBits_inv _ _ _ _ (· < 2 ^ p.length) h (fun a e ha _ _ => Nat.or_lt_two_pow ha (g.lt10 e))
theorem foldOr_bit (p : List Nat) (s a i : Nat) : ∀ n, (foldBits n s (fun o e => o ||| less p e) a).testBit i = true ↔ (a.testBit i = true ∨ ∃ e, e < n ∧ s.testBit e = true ∧ (less p e).testBit i = true)
  | 0 => by simp [foldBits]
  | n + 1 => by
    rw [foldBits_succ]
    have ih := foldOr_bit p s a i n
    split
    · rename_i hs
      rw [Nat.testBit_or, Bool.or_eq_true, ih]
      constructor
      · rintro ((h | ⟨e, h1, h2, h3⟩) | h)
        · exact .inl h
        · exact .inr ⟨e, by omega, h2, h3⟩
        · exact .inr ⟨n, by omega, hs, h⟩
      · rintro (h | ⟨e, h1, h2, h3⟩)
        · exact .inl (.inl h)
        · by_cases he : e = n
          · subst he; exact .inr h3
          · exact .inl (.inr ⟨e, by omega, h2, h3⟩)
    · rename_i hs
      rw [ih]
      constructor
      · rintro (h | ⟨e, h1, h2, h3⟩)
        · exact .inl h
        · exact .inr ⟨e, by omega, h2, h3⟩
      · rintro (h | ⟨e, h1, h2, h3⟩)
        · exact .inl h
        · by_cases he : e = n
          · subst he; exact absurd h2 hs
          · exact .inr ⟨e, by omega, h2, h3⟩
theorem close_bit {p : List Nat} {s i : Nat} (h : s < 2 ^ p.length) : (close p s).testBit i = true ↔ (s.testBit i = true ∨ ∃ e, s.testBit e = true ∧ (less p e).testBit i = true) := by
  unfold close; rw [foldOr_bit]
  constructor
  · rintro (h1 | ⟨e, _, h1⟩)
    · exact .inl h1
    · exact .inr ⟨e, h1⟩
  · rintro (h1 | ⟨e, h1⟩)
    · exact .inl h1
    · exact .inr ⟨e, bit_lt h h1.1, h1⟩
def IsId (p : List Nat) (s : Nat) : Prop := s < 2 ^ p.length ∧ ∀ e, s.testBit e = true → ∀ i, (less p e).testBit i = true → s.testBit i = true
def idealB (p : List Nat) (s : Nat) : Bool := (List.range' 0 p.length).all fun e => !(s.testBit e) || sd (less p e) s == 0
theorem idealB_iff {p : List Nat} {s : Nat} (h : s < 2 ^ p.length) : idealB p s = true ↔ IsId p s := by
  simp only [idealB, IsId, List.all_eq_true, List.mem_range'_1, Bool.or_eq_true, Bool.not_eq_true', beq_iff_eq, sd_zero]
  constructor
  · intro h1
    refine ⟨h, fun e he => ?_⟩
    rcases h1 e ⟨by omega, by have := bit_lt h he; omega⟩ with h2 | h2
    · rw [he] at h2; cases h2
    · exact h2
  · rintro ⟨_, h1⟩ e _
    cases he : s.testBit e
    · exact .inl rfl
    · exact .inr (h1 e he)
theorem close_eq_iff {p : List Nat} {s : Nat} (h : s < 2 ^ p.length) : close p s = s ↔ IsId p s := by
  constructor
  · intro hc
    refine ⟨h, fun e he i hi => ?_⟩
    rw [← hc]; exact (close_bit h).mpr (.inr ⟨e, he, hi⟩)
  · rintro ⟨_, hi⟩
    apply Nat.eq_of_testBit_eq
    intro i
    rw [Bool.eq_iff_iff, close_bit h]
    constructor
    · rintro (h1 | ⟨e, h1, h2⟩)
      · exact h1
      · exact hi e h1 i h2
    · exact .inl
theorem close_beq {p : List Nat} {s : Nat} (h : s < 2 ^ p.length) : (close p s == s) = idealB p s := by
  rw [Bool.eq_iff_iff, beq_iff_eq, close_eq_iff h, idealB_iff h]
end Go.Proofs.Ytpdgiinedbdamaa.M
end
section
namespace Go.Proofs.Ytpdgiinedbdamaa.L
open Go.RowKit Go.Proofs.YtpdgiinedbdamaaW.PrintWords Go.Proofs.YtpdgiinedbdamaaW.PrintLast Go.Proofs.YtpdgiinedbdamaaW.PrintMore
attribute [local go_sem] max2_int min2_int max_two min_two max_three min_three max_four min_four
set_option linter.unusedVariables false
set_option linter.unusedSimpArgs false
def spec_l1All.l0 : Nat → Int → Int → List Int → Int → Int → Option (Bool)
  | 0, _, _, _, _, _ => none
  | k + 1, x1, x2, x9, x10, x11 => if x11 < x10 then (if 0 ≤ x11 then (if x11 < (x9.length : Int) then ((spec_l1In.f (rd x9 x11) x1 x2).bind fun t341 => (if t341 = true then (spec_l1All.l0 k x1 x2 x9 x10 (wrap64 (x11 + 1))) else (some false))) else (none)) else (none)) else (some true)
def spec_l1All.f (k : Nat) (l0 : List Int) (a1 : Int) (a2 : Int) : Option (Bool) := spec_l1All.l0 k a1 a2 l0 (l0.length : Int) 0
theorem spec_l1All.mono_l : ∀ k, (∀ y0 y1 y2 y3 y4, LeO (spec_l1All.l0 k y0 y1 y2 y3 y4) (spec_l1All.l0 (k + 1) y0 y1 y2 y3 y4))
  | 0 => fun _ _ _ _ _ r h => by simp [spec_l1All.l0] at h
  | k + 1 => by
    have ih0 := spec_l1All.mono_l k
    · intro y0 y1 y2 y3 y4
      unfold spec_l1All.l0
      repeat' first
      | (with_reducible exact ih0 _ _ _ _ _)
      | (with_reducible exact LeO.refl _)
      | (with_reducible exact LeO.none _)
      | (with_reducible refine LeO.ite ?_ ?_)
      | (with_reducible refine LeO.bind ?_ (fun _ => ?_))
      | exact ih0 _ _ _ _ _
      | exact LeO.none _
      | refine LeO.ite ?_ ?_
      | refine LeO.bind ?_ (fun _ => ?_)
theorem spec_l1All.mono : ∀ a0 a1 a2 k, LeO (spec_l1All.f k a0 a1 a2) (spec_l1All.f (k + 1) a0 a1 a2) := by
  intro a0 a1 a2 k
  have ih0 := spec_l1All.mono_l k
  unfold spec_l1All.f
  repeat' first
      | (with_reducible exact ih0 _ _ _ _ _)
      | (with_reducible exact LeO.refl _)
      | (with_reducible exact LeO.none _)
      | (with_reducible refine LeO.ite ?_ ?_)
      | (with_reducible refine LeO.bind ?_ (fun _ => ?_))
      | exact ih0 _ _ _ _ _
      | exact LeO.none _
      | refine LeO.ite ?_ ?_
      | refine LeO.bind ?_ (fun _ => ?_)
set_option maxHeartbeats 8000000 in
set_option maxRecDepth 100000 in
theorem spec_l1All.calls (k : Nat) (A0 : Option Addr) (c0 : Nat) (l0 : List Int) (a1 : Int) (a2 : Int) (r : Bool) (w : World) (hr0 : Kd.C (Kd.int .i64) w A0 l0.length l0) (hc0 : l0.length ≤ c0) (h : spec_l1All.f k l0 a1 a2 = some r) :
    Calls Try.prog 143 #[.slice A0 l0.length c0, .int .i64 a1, .int .i64 a2] w fun e w' => e = .returned (.bool r) ∧ Drawn0 w w' := by
  have HR0 := Aside0.mk hr0
  have HC0 := Aside0.mk hc0
  clear hr0 hc0
  have H : (spec_l1All.l0 k a1 a2 l0 (l0.length : Int) 0) = some r := h
  clear h
  have H' := Aside0.mk H
  clear H
  go_enter Try.func143, Try.ntmps143
  go_wp2
  go_loopg [11] k (fun kq v11 w' => ∃ (x11_1 : Int), v11 = .int .i64 x11_1 ∧ Aside0 (spec_l1All.l0 kq a1 a2 l0 (l0.length : Int) x11_1 = some r) ∧ Aside0 (kq ≤ k) ∧ Drawn0 w w')
  case atStart => exact ⟨(0), (by first | rfl | (simp; done) | (simp [*]; done)), H', ⟨Nat.le_refl _⟩, by repeat (first | exact Drawn0.refl _ | apply Drawn0.step)⟩
  case round =>
    clear H'
    try clear c1
    try clear p2
    obtain ⟨x11_1, rfl, HA, HK1, ⟨m1, rfl⟩⟩ := hrel
    cases gk with
    | zero => exact absurd HA.out (by simp [spec_l1All.l0])
    | succ k1 =>
      have H := HA.out
      clear HA
      simp only [spec_l1All.l0] at H
      by_cases c4 : x11_1 < (l0.length : Int)
      · rw [if_pos c4] at H
        have c4b0 : decide (x11_1 < (l0.length : Int)) = true := decide_eq_true c4
        clear c4
        by_cases c5 : 0 ≤ x11_1
        · rw [if_pos c5] at H
          have c5b0 : decide (0 ≤ x11_1) = true := decide_eq_true c5
          clear c5
          by_cases c6 : x11_1 < (l0.length : Int)
          · rw [if_pos c6] at H
            have c6b0 : decide (x11_1 < (l0.length : Int)) = true := decide_eq_true c6
            clear c6
            replace H := Option.bind_eq_some_iff.mp H
            obtain ⟨t341, A70, H⟩ := H
            replace H : (if t341 = true then (spec_l1All.l0 k1 a1 a2 l0 (l0.length : Int) (wrap64 (x11_1 + 1))) else (some false)) = some r := H
            have A7 := Aside0.mk A70
            clear A70
            by_cases c8 : t341 = true
            · subst c8
              have H1 : (spec_l1All.l0 k1 a1 a2 l0 (l0.length : Int) (wrap64 (x11_1 + 1))) = some r := by rw [if_pos rfl] at H; exact H
              clear H
              have H := H1
              clear H1
              have H' := Aside0.mk H
              clear H
              have p340 : 0 ≤ (x11_1 : Int) := of_decide_eq_true (by first | (with_reducible assumption) | assumption)
              have q340 : x11_1 < (l0.length : Int) := of_decide_eq_true (by first | (with_reducible assumption) | assumption)
              obtain ⟨ad340, e340, hx340_0⟩ := Kd.at_int HR0.out x11_1 p340 q340
              cases e340
              replace p340 := eq_true p340
              replace q340 := eq_true q340
              go_wp2_with (first | ((with_reducible refine gate_callee (f := 115) rfl ?_); refine goesL_ (some 18) rfl rfl Try.func115 (by kernel_rfl) rfl #[.int .i64 (rd l0 x11_1), .int .i64 a1, .int .i64 a2] rfl (by (try simp only [List.map_toArray, List.map_cons, List.map_nil]); first | done | rfl | (simp only [List.length_drop, List.length_take]; rfl)) ?_; (with_reducible refine (spec_l1In.calls (rd l0 x11_1) a1 a2 true _ A7.out).mono ?_); rintro e w' ⟨rfl, ⟨nd, rfl⟩⟩; refine ⟨_, rfl, ?_⟩))
              go_roundg k1
              case measure => have := HK1.out; omega
              case rel => exact ⟨(wrap64 (x11_1 + 1)), (by first | rfl | (simp; done) | (simp [*]; done)), H', ⟨by have := HK1.out; omega⟩, by repeat (first | exact Drawn0.refl _ | apply Drawn0.step)⟩
            · replace c8 := Bool.eq_false_iff.mpr c8
              subst c8
              have H1 : (some false) = some r := by rw [if_neg (show ¬ (false = true) by decide)] at H; exact H
              clear H
              have H := H1
              clear H1
              obtain rfl := Option.some.inj H
              have p340 : 0 ≤ (x11_1 : Int) := of_decide_eq_true (by first | (with_reducible assumption) | assumption)
              have q340 : x11_1 < (l0.length : Int) := of_decide_eq_true (by first | (with_reducible assumption) | assumption)
              obtain ⟨ad340, e340, hx340_0⟩ := Kd.at_int HR0.out x11_1 p340 q340
              cases e340
              replace p340 := eq_true p340
              replace q340 := eq_true q340
              go_wp2_with (first | ((with_reducible refine gate_callee (f := 115) rfl ?_); refine goesL_ (some 18) rfl rfl Try.func115 (by kernel_rfl) rfl #[.int .i64 (rd l0 x11_1), .int .i64 a1, .int .i64 a2] rfl (by (try simp only [List.map_toArray, List.map_cons, List.map_nil]); first | done | rfl | (simp only [List.length_drop, List.length_take]; rfl)) ?_; (with_reducible refine (spec_l1In.calls (rd l0 x11_1) a1 a2 false _ A7.out).mono ?_); rintro e w' ⟨rfl, ⟨nd, rfl⟩⟩; refine ⟨_, rfl, ?_⟩))
              go_ret
              exact ⟨by first | rfl | (simp; done) | (simp [*]; done), by repeat (first | exact Drawn0.refl _ | apply Drawn0.step)⟩
          · rw [if_neg c6] at H
            exact absurd H (by simp)
        · rw [if_neg c5] at H
          exact absurd H (by simp)
      · rw [if_neg c4] at H
        have c4b0 : decide (x11_1 < (l0.length : Int)) = false := decide_eq_false c4
        clear c4
        obtain rfl := Option.some.inj H
        go_wp2
        go_ret
        exact ⟨by first | rfl | (simp; done) | (simp [*]; done), by repeat (first | exact Drawn0.refl _ | apply Drawn0.step)⟩
end Go.Proofs.Ytpdgiinedbdamaa.L
end
section
namespace Go.Proofs.Ytpdgiinedbdamaa.M
open Go.RowKit Go.Proofs.YtpdgiinedbdamaaW.PrintWords Go.Proofs.YtpdgiinedbdamaaW.PrintLast Go.Proofs.YtpdgiinedbdamaaW.PrintMore Go.Proofs.Ytpdgiinedbdamaa.L
theorem toIntS_l0 (l : List Int) (hl : l.length ≤ 35184372088832) : ∀ (d i : Nat) (acc : List Int), i + d = l.length → acc.length = l.length → Ev (fun k => laws_toIntS.l0 k l acc i) (acc.take i ++ l.drop i)
  | 0, i, acc, h, ha => by
    have h1 : ¬ ((i : Int) < (l.length : Int)) := by omega
    refine Ev.step (fun _ => rfl) (ev_neg h1 ?_)
    rw [List.take_of_length_le (by omega), List.drop_of_length_le (by omega), List.append_nil]
    exact Ev.now _
  | d + 1, i, acc, h, ha => by
    have h1 : (i : Int) < (l.length : Int) := by omega
    refine Ev.step (fun _ => rfl) (ev_pos h1 (ev_pos (by omega) (ev_pos (by omega) ?_)))
    rw [wrap_succ (by omega), rd_get (by omega : i < l.length), Int.toNat_natCast]
    have ih := toIntS_l0 l hl d (i + 1) (acc.set i l[i]) (by omega) (by simp [ha])
    have e : (acc.set i l[i]).take (i + 1) ++ l.drop (i + 1) = acc.take i ++ l.drop i := by
      rw [List.take_succ_eq_append_getElem (by simp; omega), List.getElem_set_self, List.drop_eq_getElem_cons (by omega : i < l.length)]
      simp [List.take_set_of_le]
    rw [← e]; exact ih
theorem toIntS_ev (l : List Int) (hl : l.length ≤ 35184372088832) : Ev (fun k => laws_toIntS.f k l) l := by
  have h := toIntS_l0 l hl l.length 0 (List.replicate l.length 0) (by omega) (by simp)
  exact ev_pos (by omega) (ev_pos (by simpa using hl) (by simpa using h))
theorem eqIntS_l0 (a b : List Int) (hl : a.length ≤ 9223372036854775806) (hab : a.length = b.length) : ∀ (d i : Nat), i + d = a.length → Ev (fun k => laws_eqIntS.l0 k a b i) (decide (a.drop i = b.drop i))
  | 0, i, h => by
    have h1 : ¬ ((i : Int) < (a.length : Int)) := by omega
    refine Ev.step (fun _ => rfl) (ev_neg h1 ?_)
    rw [List.drop_of_length_le (by omega), List.drop_of_length_le (by omega)]
    exact Ev.now _
  | d + 1, i, h => by
    have h1 : (i : Int) < (a.length : Int) := by omega
    refine Ev.step (fun _ => rfl) (ev_pos h1 (ev_pos (by omega) (ev_pos (by omega) ?_)))
    rw [wrap_succ (by omega), rd_get (by omega : i < a.length), rd_get (by omega : i < b.length)]
    rw [List.drop_eq_getElem_cons (by omega : i < a.length), List.drop_eq_getElem_cons (by omega : i < b.length)]
    refine ev_ite (fun e => ?_) (fun e => ?_)
    · rw [decide_eq_decide.mpr (show (a[i] :: a.drop (i + 1) = b[i] :: b.drop (i + 1)) ↔ a.drop (i + 1) = b.drop (i + 1) by rw [List.cons.injEq]; exact ⟨fun z => z.2, fun z => ⟨e, z⟩⟩)]
      exact eqIntS_l0 a b hl hab d (i + 1) (by omega)
    · rw [decide_eq_false (show ¬ (a[i] :: a.drop (i + 1) = b[i] :: b.drop (i + 1)) by rw [List.cons.injEq]; exact fun z => e z.1)]
      exact Ev.now false
theorem eqIntS_ev (a b : List Int) (hl : a.length ≤ 9223372036854775806) : Ev (fun k => laws_eqIntS.f k a b) (decide (a = b)) := by
  refine ev_ite (fun e => ?_) (fun e => ?_)
  · simpa using eqIntS_l0 a b hl (by omega) a.length 0 (by omega)
  · have : ¬ a = b := fun z => e (by rw [z])
    simpa [this] using Ev.now false
def marks (q : Nat) (n : Nat) : List Int := (List.range' q n).map Int.ofNat
theorem marks_len (q n : Nat) : (marks q n).length = n := by simp [marks]
theorem marks_get (q n i : Nat) (h : i < (marks q n).length) : (marks q n)[i] = ((q + i : Nat) : Int) := by simp [marks]
theorem markIntS_l0 (n : Nat) (hn : n ≤ 4611686018427387903) (q : Nat) (hq : q ≤ 4611686018427387903) : ∀ (d i : Nat) (acc : List Int), i + d = n → acc.length = n → (∀ j (hj : j < acc.length), j < i → acc[j] = ((q + j : Nat) : Int)) →
    Ev (fun k => laws_markIntS.l0 k acc ((q + i : Nat) : Int) i) (((q + n : Nat) : Int), marks q n)
  | 0, i, acc, h, ha, hm => by
    have h1 : ¬ ((i : Int) < (acc.length : Int)) := by omega
    refine Ev.step (fun _ => rfl) (ev_neg h1 ?_)
    have e : acc = marks q n := List.ext_getElem (by rw [ha, marks_len]) (fun j h1 h2 => by rw [hm j h1 (by omega), marks_get])
    have e2 : i = n := by omega
    rw [e, e2]; exact Ev.now _
  | d + 1, i, acc, h, ha, hm => by
    have h1 : (i : Int) < (acc.length : Int) := by omega
    refine Ev.step (fun _ => rfl) (ev_pos h1 (ev_pos (by omega) ?_))
    rw [wrap_succ (by omega), wrap_succ (by omega), Int.toNat_natCast]
    refine markIntS_l0 n hn q hq d (i + 1) (acc.set i ((q + i : Nat) : Int)) (by omega) (by simp [ha]) (fun j hj hji => ?_)
    by_cases e : j = i
    · subst e; simp
    · rw [List.getElem_set_ne (by omega)]; exact hm j _ (by omega)
theorem markIntS_ev (l : List Int) (q : Nat) (hl : l.length ≤ 4611686018427387903) (hq : q ≤ 4611686018427387903) : Ev (fun k => laws_markIntS.f k l (q : Int)) (((q + l.length : Nat) : Int), marks q l.length) :=
  markIntS_l0 l.length hl q hq l.length 0 l (by omega) rfl (fun j _ h => by omega)
theorem heldIntS_l0 (q n : Nat) (hn : n ≤ 4611686018427387903) (hq : q ≤ 4611686018427387903) : ∀ (d i : Nat), i + d = n → Ev (fun k => laws_heldIntS.l0 k (marks q n) ((q + i : Nat) : Int) i) ((q + n : Nat) : Int)
  | 0, i, h => by
    have hm := marks_len q n
    have h1 : ¬ ((i : Int) < ((marks q n).length : Int)) := by omega
    refine Ev.step (fun _ => rfl) (ev_neg h1 ?_)
    have e2 : i = n := by omega
    rw [e2]; exact Ev.now _
  | d + 1, i, h => by
    have hm := marks_len q n
    have h1 : (i : Int) < ((marks q n).length : Int) := by omega
    refine Ev.step (fun _ => rfl) (ev_pos h1 (ev_pos (by omega) (ev_pos ?_ ?_)))
    · rw [rd_get (by omega), marks_get]
    · rw [wrap_succ (by omega), wrap_succ (by omega)]
      exact heldIntS_l0 q n hn hq d (i + 1) (by omega)
theorem heldIntS_ev (q n : Nat) (hn : n ≤ 4611686018427387903) (hq : q ≤ 4611686018427387903) : Ev (fun k => laws_heldIntS.f k (marks q n) (q : Int)) ((q + n : Nat) : Int) :=
  heldIntS_l0 q n hn hq n 0 (by omega)
end Go.Proofs.Ytpdgiinedbdamaa.M
end
section
namespace Go.Proofs.Ytpdgiinedbdamaa.M
open Go.RowKit Go.Proofs.YtpdgiinedbdamaaW.PrintWords Go.Proofs.YtpdgiinedbdamaaW.PrintLast Go.Proofs.YtpdgiinedbdamaaW.PrintMore Go.Proofs.Ytpdgiinedbdamaa.L
theorem l1In_eq (x lo hi : Int) : spec_l1In.f x lo hi = some (inB x lo hi) := by
  unfold spec_l1In.f inB
  by_cases h : lo ≤ x <;> simp [h]
theorem within_eq (x lo hi : Int) : impl_within.f x lo hi = some (inB x lo hi) := by
  unfold impl_within.f inB
  by_cases h : lo ≤ x <;> simp [h]
end Go.Proofs.Ytpdgiinedbdamaa.M
end
section
namespace Go.Proofs.Ytpdgiinedbdamaa.M
open Go.RowKit Go.Proofs.YtpdgiinedbdamaaW.PrintWords Go.Proofs.YtpdgiinedbdamaaW.PrintLast Go.Proofs.YtpdgiinedbdamaaW.PrintMore Go.Proofs.Ytpdgiinedbdamaa.L
set_option linter.unusedVariables false
theorem has_eq {s e : Nat} (hs : s < 2 ^ 63) (he : e ≤ 64) : impl_has.f (s : Int) (e : Int) = some (s.testBit e) := by
  unfold impl_has.f; rw [if_pos (by omega), bit_and hs he]
theorem poIn_eq {s e : Nat} (he : e ≤ 64) : spec_poIn.f (s : Int) (e : Int) = some (s.testBit e) := by
  unfold spec_poIn.f; rw [if_pos (by omega), bit_mod he]
theorem items_l0 (s : Nat) (hs : s < 2 ^ 63) : ∀ (d i : Nat) (acc : List Nat), i + d = 10 → acc.length ≤ i → Ev (fun k => impl_items.l0 k (s : Int) (toI acc) (i : Int)) (toI (acc ++ (List.range' i d).filter fun e => s.testBit e))
  | 0, i, acc, h, ha => by
    refine Ev.step (fun _ => impl_items.l0.eq_2 ..) (ev_neg (by omega) ?_)
    simpa using Ev.now _
  | d + 1, i, acc, h, ha => by
    refine Ev.step (fun _ => impl_items.l0.eq_2 ..) (ev_pos (by omega) (ev_call (has_eq hs (by omega)) ?_))
    rw [wrap_succ (by omega), List.range'_succ]
    refine ev_ite (fun e => ev_pos (by rw [toI_len]; omega) ?_) (fun e => ?_)
    · rw [← toI_one, ← toI_app, List.filter_cons_of_pos e]
      have := items_l0 s hs d (i + 1) (acc ++ [i]) (by omega) (by simp; omega)
      simpa using this
    · rw [List.filter_cons_of_neg e]
      exact items_l0 s hs d (i + 1) acc (by omega) (by omega)
theorem items_ev {s : Nat} (hs : s < 2 ^ 63) : Ev (fun k => impl_items.f k (s : Int)) (toI (items s)) := by
  have h := items_l0 s hs 10 0 [] (by omega) (by simp)
  rw [List.nil_append, ← List.range_eq_range'] at h
  exact h
theorem n_eq (l : List Int) : impl_Poset_n.f l = some (l.length : Int) := rfl
theorem all_eq {p : List Nat} (h : p.length ≤ 10) : impl_Poset_all.f (toI p) = some ((full p : Nat) : Int) := by
  unfold impl_Poset_all.f
  rw [n_eq, Option.bind_some, if_pos (by omega), toI_len, shl_one' (by omega)]; rfl
theorem items_all {m i : Nat} (hm : m < 2 ^ i) (hi : i ≤ 10) (g : Nat → Bool) : (items m).all g = (List.range i).all fun j => !(m.testBit j) || g j := by
  rw [Bool.eq_iff_iff]
  simp only [List.all_eq_true, mem_items, List.mem_range, Bool.or_eq_true, Bool.not_eq_true']
  constructor
  · intro h j hj
    cases hb : m.testBit j
    · exact .inl rfl
    · exact .inr (h j ⟨by omega, hb⟩)
  · rintro h j ⟨_, hb⟩
    rcases h j (bit_lt hm hb) with h2 | h2
    · rw [hb] at h2; cases h2
    · exact h2
theorem pow_small {i : Nat} (h : i ≤ 10) : 2 ^ i ≤ 1024 := by
  have := Nat.pow_le_pow_right (n := 2) (by decide) h
  simpa using this
theorem rd_getD (l : List Int) (i : Nat) : rd l (i : Int) = l.getD i 0 := by simp [rd]
theorem isPoset_l1 (l : List Int) (i m : Nat) (R : Bool) (hl : l.length ≤ 10) (hi : i < l.length) (hm : m < 2 ^ i) (ok : ∀ j, j < i → ∃ a : Nat, l.getD j 0 = (a : Int) ∧ a < 2 ^ j)
    (hR : Ev (fun k => impl_IsPoset.l0 k l (l.length : Int) ((i + 1 : Nat) : Int) l) R) : ∀ (d q : Nat), q + d = (items m).length →
    Ev (fun k => impl_IsPoset.l1 k (m : Int) l (l.length : Int) (i : Int) (toI (items m)) ((toI (items m)).length : Int) (q : Int) l) (((items m).drop q).all (fun j => sd (l.getD j 0).toNat m == 0) && R)
  | 0, q, h => by
    refine Ev.step (fun _ => impl_IsPoset.l1.eq_2 ..) (ev_neg (by rw [toI_len]; omega) ?_)
    rw [List.drop_of_length_le (by omega), List.all_nil, Bool.true_and, wrap_succ (by omega)]
    exact hR
  | d + 1, q, h => by
    have hq : q < (items m).length := by omega
    have hj : (items m)[q] ∈ items m := List.getElem_mem hq
    obtain ⟨_, hb⟩ := mem_items.mp hj
    have hji := bit_lt hm hb
    obtain ⟨a, ha, ha2⟩ := ok _ hji
    have e1 : rd (toI (items m)) (q : Int) = (((items m)[q] : Nat) : Int) := by rw [rd_toI]; simp [List.getD_eq_getElem?_getD, hq]
    have hlen := items_len m
    have hp1 := pow_small (show i ≤ 10 by omega)
    have hp2 := pow_small (show (items m)[q] ≤ 10 by omega)
    refine Ev.step (fun _ => impl_IsPoset.l1.eq_2 ..) ?_
    rw [e1]
    refine ev_pos (by rw [toI_len]; omega) (ev_pos (by omega) (ev_pos (by rw [toI_len]; omega) (ev_pos (by omega) (ev_pos (by omega) ?_))))
    rw [rd_getD, ha, bits_andNot (lt63 ha2 (by omega)) (lt63 hm (by omega)), wrap_succ (by omega), List.drop_eq_getElem_cons hq, List.all_cons, ha, Int.toNat_natCast]
    refine ev_ite (fun e => ?_) (fun e => ?_)
    · have e' : sd a m = 0 := by omega
      rw [e', beq_self_eq_true, Bool.true_and]
      exact isPoset_l1 l i m R hl hi hm ok hR d (q + 1) (by omega)
    · have e' : (sd a m == 0) = false := by rw [beq_eq_false_iff_ne]; omega
      rw [e', Bool.false_and, Bool.false_and]
      exact Ev.now _
theorem isPoset_l0 (l : List Int) (hl : l.length ≤ 10) : ∀ (d i : Nat), i + d = l.length → (∀ j, j < i → ∃ a : Nat, l.getD j 0 = (a : Int) ∧ a < 2 ^ j) →
    Ev (fun k => impl_IsPoset.l0 k l (l.length : Int) (i : Int) l) ((List.range' i d).all (okAt l))
  | 0, i, h, ok => by
    refine Ev.step (fun _ => impl_IsPoset.l0.eq_2 ..) (ev_neg (by omega) ?_)
    exact Ev.now _
  | d + 1, i, h, ok => by
    have hp1 := pow_small (show i ≤ 10 by omega)
    have hpos := Nat.two_pow_pos i
    refine Ev.step (fun _ => impl_IsPoset.l0.eq_2 ..) (ev_pos (by omega) (ev_pos (by omega) (ev_pos (by omega) (ev_call (within_eq _ _ _) ?_))))
    rw [rd_getD, shl_one' (by omega), List.range'_succ, List.all_cons, okAt_def l i]
    refine ev_ite (fun e => ?_) (fun e => ?_)
    · have b := inB_iff.mp e
      obtain ⟨m, hm⟩ : ∃ m : Nat, l.getD i 0 = (m : Int) := ⟨(l.getD i 0).toNat, by omega⟩
      rw [e, Bool.true_and, hm]
      have hm2 : m < 2 ^ i := by omega
      refine Ev.bind (items_ev (lt63 hm2 (by omega))) ?_
      have hnx := isPoset_l0 l hl d (i + 1) (by omega) (fun j hj => by
        by_cases hji : j = i
        · subst hji; exact ⟨m, hm, hm2⟩
        · exact ok j (by omega))
      have := isPoset_l1 l i m _ hl (by omega) hm2 ok hnx (items m).length 0 (by omega)
      rw [List.drop_zero, items_all hm2 (by omega)] at this
      simpa using this
    · rw [Bool.eq_false_iff.mpr e, Bool.false_and, Bool.false_and]
      exact Ev.now _
theorem isPoset_ev (l : List Int) : Ev (fun k => impl_IsPoset.f k l) (goodB l) := by
  refine ev_call (n_eq l) (ev_call (within_eq _ _ _) ?_)
  unfold goodB
  refine ev_ite (fun e => ?_) (fun e => ?_)
  · have b := inB_iff.mp e
    rw [e, Bool.true_and]
    exact isPoset_l0 l (by omega) l.length 0 (by omega) (fun j hj => by omega)
  · rw [Bool.eq_false_iff.mpr e, Bool.false_and]; exact Ev.now _
theorem poGood_l1 (l : List Int) (i m : Nat) (R : Bool) (hl : l.length ≤ 10) (hi : i < l.length) (hm : m < 2 ^ i) (ok : ∀ j, j < i → ∃ a : Nat, l.getD j 0 = (a : Int) ∧ a < 2 ^ j)
    (hR : Ev (fun k => spec_poGood.l0 k l (l.length : Int) ((i + 1 : Nat) : Int) l) R) : ∀ (d j : Nat), j + d = i →
    Ev (fun k => spec_poGood.l1 k (i : Int) (m : Int) (j : Int) l (l.length : Int) (i : Int) l) ((List.range' j d).all (fun j => !(m.testBit j) || sd (l.getD j 0).toNat m == 0) && R)
  | 0, j, h => by
    refine Ev.step (fun _ => spec_poGood.l1.eq_2 ..) (ev_neg (by omega) ?_)
    rw [wrap_succ (by omega)]
    simpa using hR
  | d + 1, j, h => by
    obtain ⟨a, ha, ha2⟩ := ok j (by omega)
    have hp1 := pow_small (show i ≤ 10 by omega)
    have hp2 := pow_small (show j ≤ 10 by omega)
    have ih := poGood_l1 l i m R hl hi hm ok hR d (j + 1) (by omega)
    refine Ev.step (fun _ => spec_poGood.l1.eq_2 ..) (ev_pos (by omega) (ev_pos (by omega) ?_))
    rw [wrap_succ (by omega), List.range'_succ, List.all_cons, rd_getD, ha, bits_andNot (lt63 ha2 (by omega)) (lt63 hm (by omega)), Int.toNat_natCast]
    refine ev_ite (fun e => ?_) (fun e => ?_)
    · rw [bit_mod' (by omega)] at e
      rw [e, Bool.not_true, Bool.false_or]
      refine ev_pos (by omega) (ev_ite (fun e => ?_) (fun e => ?_))
      · have e' : sd a m = 0 := by omega
        rw [e', beq_self_eq_true, Bool.true_and]; exact ih
      · have e' : (sd a m == 0) = false := by rw [beq_eq_false_iff_ne]; omega
        rw [e', Bool.false_and, Bool.false_and]; exact Ev.now _
    · rw [bit_mod' (by omega)] at e
      rw [Bool.eq_false_iff.mpr e, Bool.not_false, Bool.true_or, Bool.true_and]; exact ih
theorem poGood_l0 (l : List Int) (hl : l.length ≤ 10) : ∀ (d i : Nat), i + d = l.length → (∀ j, j < i → ∃ a : Nat, l.getD j 0 = (a : Int) ∧ a < 2 ^ j) →
    Ev (fun k => spec_poGood.l0 k l (l.length : Int) (i : Int) l) ((List.range' i d).all (okAt l))
  | 0, i, h, ok => by
    refine Ev.step (fun _ => spec_poGood.l0.eq_2 ..) (ev_neg (by omega) ?_)
    exact Ev.now _
  | d + 1, i, h, ok => by
    have hp1 := pow_small (show i ≤ 10 by omega)
    have hpos := Nat.two_pow_pos i
    refine Ev.step (fun _ => spec_poGood.l0.eq_2 ..) (ev_pos (by omega) (ev_pos (by omega) (ev_pos (by omega) (ev_call (l1In_eq _ _ _) ?_))))
    rw [rd_getD, shl_one' (by omega), List.range'_succ, List.all_cons, okAt_def l i]
    refine ev_ite (fun e => ?_) (fun e => ?_)
    · have b := inB_iff.mp e
      obtain ⟨m, hm⟩ : ∃ m : Nat, l.getD i 0 = (m : Int) := ⟨(l.getD i 0).toNat, by omega⟩
      rw [e, Bool.true_and, hm]
      have hm2 : m < 2 ^ i := by omega
      have hnx := poGood_l0 l hl d (i + 1) (by omega) (fun j hj => by
        by_cases hji : j = i
        · subst hji; exact ⟨m, hm, hm2⟩
        · exact ok j (by omega))
      have := poGood_l1 l i m _ hl (by omega) hm2 ok hnx i 0 (by omega)
      simpa [List.range_eq_range'] using this
    · rw [Bool.eq_false_iff.mpr e, Bool.false_and, Bool.false_and]
      exact Ev.now _
theorem poGood_ev (l : List Int) : Ev (fun k => spec_poGood.f k l) (goodB l) := by
  refine ev_call (l1In_eq _ _ _) ?_
  unfold goodB
  refine ev_ite (fun e => ?_) (fun e => ?_)
  · have b := inB_iff.mp e
    rw [e, Bool.true_and]
    exact poGood_l0 l (by omega) l.length 0 (by omega) (fun j hj => by omega)
  · rw [Bool.eq_false_iff.mpr e, Bool.false_and]; exact Ev.now _
end Go.Proofs.Ytpdgiinedbdamaa.M
end
section
namespace Go.Proofs.Ytpdgiinedbdamaa.M
open Go.RowKit Go.Proofs.YtpdgiinedbdamaaW.PrintWords Go.Proofs.YtpdgiinedbdamaaW.PrintLast Go.Proofs.YtpdgiinedbdamaaW.PrintMore Go.Proofs.Ytpdgiinedbdamaa.L
set_option linter.unusedVariables false
theorem toNat_toI (p : List Nat) : (toI p).map Int.toNat = p := by
  simp only [toI, List.map_map]
  exact (List.map_congr_left (fun x _ => by simp)).trans (List.map_id p)
theorem Good.len63 {p : List Nat} (g : Good p) {s : Nat} (h : s < 2 ^ p.length) : s < 2 ^ 63 := M.lt63 h (by have := g.le; omega)
theorem items_get {m q : Nat} (hq : q < (items m).length) : (items m)[q] < 10 ∧ m.testBit (items m)[q] = true := mem_items.mp (List.getElem_mem hq)
theorem rd_items {m q : Nat} (hq : q < (items m).length) : rd (toI (items m)) (q : Int) = (((items m)[q] : Nat) : Int) := by rw [rd_toI]; simp [List.getD_eq_getElem?_getD, hq]
theorem close_l0 {p : List Nat} (g : Good p) (s : Nat) (hs : s < 2 ^ p.length) : ∀ (d q a : Nat), q + d = (items s).length → a < 2 ^ p.length →
    Ev (fun k => impl_Poset_close.l0 k (a : Int) (toI (items s)) ((toI (items s)).length : Int) (q : Int) (toI p)) (((((items s).drop q).foldl (fun o e => o ||| less p e) a : Nat)) : Int)
  | 0, q, a, h, ha => by
    refine Ev.step (fun _ => impl_Poset_close.l0.eq_2 ..) (ev_neg (by rw [toI_len]; omega) ?_)
    rw [List.drop_of_length_le (by omega)]; exact Ev.now _
  | d + 1, q, a, h, ha => by
    have hq : q < (items s).length := by omega
    have hm := items_get hq
    have hb := bit_lt hs hm.2
    have hl := items_len s
    refine Ev.step (fun _ => impl_Poset_close.l0.eq_2 ..) ?_
    rw [rd_items hq, toI_len, toI_len]
    refine ev_pos (by omega) (ev_pos (by omega) (ev_pos (by omega) (ev_pos (by omega) (ev_pos (by omega) ?_))))
    rw [rd_less, bits_or (g.len63 ha) (g.lt63 _), wrap_succ (by omega), List.drop_eq_getElem_cons hq, List.foldl_cons, ← toI_len]
    exact close_l0 g s hs d (q + 1) _ (by omega) (Nat.or_lt_two_pow ha (g.lt10 _))
theorem close_ev {p : List Nat} (g : Good p) {s : Nat} (hs : s < 2 ^ p.length) : Ev (fun k => impl_Poset_close.f k (toI p) (s : Int)) ((close p s : Nat) : Int) := by
  refine Ev.bind (items_ev (g.len63 hs)) ?_
  have h := close_l0 g s hs (items s).length 0 s (by omega) hs
  rw [List.drop_zero, foldl_items_n _ _ hs g.le] at h
  exact h
theorem poIdeal_l0 {p : List Nat} (g : Good p) (s : Nat) (hs : s < 2 ^ p.length) : ∀ (d i : Nat), i + d = p.length →
    Ev (fun k => spec_poIdeal.l0 k (s : Int) (toI p) ((toI p).length : Int) (i : Int)) ((List.range' i d).all fun e => !(s.testBit e) || sd (less p e) s == 0)
  | 0, i, h => by
    refine Ev.step (fun _ => spec_poIdeal.l0.eq_2 ..) (ev_neg (by rw [toI_len]; omega) (Ev.now _))
  | d + 1, i, h => by
    have := g.le
    have ih := poIdeal_l0 g s hs d (i + 1) (by omega)
    refine Ev.step (fun _ => spec_poIdeal.l0.eq_2 ..) ?_
    refine ev_pos (by rw [toI_len]; omega) (ev_pos (by omega) (ev_pos (by rw [toI_len]; omega) (ev_call (poIn_eq (by omega)) ?_)))
    rw [rd_less, bits_andNot (g.lt63 _) (g.len63 hs), wrap_succ (by omega), List.range'_succ, List.all_cons]
    refine ev_ite (fun e => ?_) (fun e => ?_)
    · rw [e, Bool.not_true, Bool.false_or]
      refine ev_ite (fun e => ?_) (fun e => ?_)
      · have e' : sd (less p i) s = 0 := by omega
        rw [e', beq_self_eq_true, Bool.true_and]; exact ih
      · have e' : (sd (less p i) s == 0) = false := by rw [beq_eq_false_iff_ne]; omega
        rw [e', Bool.false_and]; exact Ev.now _
    · rw [Bool.eq_false_iff.mpr e, Bool.not_false, Bool.true_or, Bool.true_and]; exact ih
theorem poIdeal_ev {p : List Nat} (g : Good p) {s : Nat} (hs : s < 2 ^ p.length) : Ev (fun k => spec_poIdeal.f k (toI p) (s : Int)) (idealB p s) := poIdeal_l0 g s hs p.length 0 (by omega)
end Go.Proofs.Ytpdgiinedbdamaa.M
end
section
namespace Go.Proofs.Ytpdgiinedbdamaa.M
open Go.RowKit Go.Proofs.YtpdgiinedbdamaaW.PrintWords Go.Proofs.YtpdgiinedbdamaaW.PrintLast Go.Proofs.YtpdgiinedbdamaaW.PrintMore Go.Proofs.Ytpdgiinedbdamaa.L
set_option linter.unusedVariables false
def stepH (p : List Nat) (a : List Nat) (i : Nat) : Nat := foldBits i (less p i) (fun m e => max m (a.getD e 0 + 1)) 0
def hs (p : List Nat) : Nat → List Nat
  | 0 => []
  | i + 1 => hs p i ++ [stepH p (hs p i) i]
theorem hs_len (p : List Nat) : ∀ i, (hs p i).length = i
  | 0 => rfl
  | i + 1 => by simp [hs, hs_len p i]
def ht (p : List Nat) : List Nat := hs p p.length
theorem ht_len (p : List Nat) : (ht p).length = p.length := hs_len p _
def hh (p : List Nat) (i : Nat) : Nat := (ht p).getD i 0
theorem hs_le (p : List Nat) : ∀ i e, (hs p i).getD e 0 ≤ e
  | 0, e => by simp [hs]
  | i + 1, e => by
    rw [hs]
    by_cases h : e < i
    · have := hs_le p i e
      simpa [List.getD_eq_getElem?_getD, List.getElem?_append_left (by rw [hs_len]; exact h : e < (hs p i).length)] using this
    · by_cases h2 : e = i
      · subst h2
        have : (hs p e ++ [stepH p (hs p e) e]).getD e 0 = stepH p (hs p e) e := by
          rw [List.getD_eq_getElem?_getD, List.getElem?_append_right (by rw [hs_len]; exact Nat.le_refl _)]
          simp [hs_len]
        rw [this]
        refine foldBits_inv _ _ _ _ (· ≤ e) (Nat.zero_le _) (fun a x ha hx _ => ?_)
        have := hs_le p e x
        omega
      · rw [List.getD_eq_getElem?_getD, List.getElem?_eq_none (by simp [hs_len]; omega)]
        exact Nat.zero_le _
theorem hh_le (p : List Nat) (i : Nat) : hh p i ≤ i := hs_le p _ i
theorem getD_app_l {a b : List Nat} {e : Nat} (h : e < a.length) : (a ++ b).getD e 0 = a.getD e 0 := by
  simp [List.getD_eq_getElem?_getD, List.getElem?_append_left h]
theorem getD_app_at {a b : List Nat} {m : Nat} : (a ++ m :: b).getD a.length 0 = m := by
  simp [List.getD_eq_getElem?_getD]
theorem set_app_at {a b : List Nat} {m x : Nat} : (a ++ m :: b).set a.length x = a ++ x :: b := by simp
theorem mx_nat (a b : Nat) : mx (a : Int) (b : Int) = ((max a b : Nat) : Int) := by unfold mx; split <;> omega
theorem implHeights_l1' {p : List Nat} (g : Good p) (i : Nat) (hi : i < p.length) (a z : List Nat) (ha : a.length = i) (hz : i + 1 + z.length = p.length) (hb : ∀ e, a.getD e 0 ≤ e) (r : List Int) : ∀ (d q m : Nat), q + d = (items (less p i)).length →
    m ≤ i → Ev (fun k => impl_Poset_heights.l0 k (toI (a ++ ((items (less p i)).drop q).foldl (fun m e => max m (a.getD e 0 + 1)) m :: z)) (toI p) ((toI p).length : Int) ((i + 1 : Nat) : Int)) r →
    Ev (fun k => impl_Poset_heights.l1 k (toI (a ++ m :: z)) (i : Int) (toI p) ((toI p).length : Int) (i : Int) (toI (items (less p i))) ((toI (items (less p i))).length : Int) (q : Int)) r
  | 0, q, m, h, hm, c => by
    have := g.le
    refine Ev.step (fun _ => impl_Poset_heights.l1.eq_2 ..) (ev_neg (by rw [toI_len]; omega) ?_)
    rw [wrap_succ (by omega)]
    rw [List.drop_of_length_le (by omega)] at c; exact c
  | d + 1, q, m, h, hm, c => by
    have gl := g.le
    have hq : q < (items (less p i)).length := by omega
    have hmm := items_get hq
    have hbit := g.bit hmm.2
    have hl := items_len (less p i)
    have hx := hb (items (less p i))[q]
    refine Ev.step (fun _ => impl_Poset_heights.l1.eq_2 ..) ?_
    rw [rd_items hq]
    refine ev_pos (by rw [toI_len]; omega) (ev_pos (by omega) (ev_pos (by rw [toI_len]; omega) (ev_pos (by omega) (ev_pos (by rw [toI_len]; simp; omega) (ev_pos (by omega) (ev_pos (by rw [toI_len]; simp; omega) ?_))))))
    have e1 : rd (toI (a ++ m :: z)) (i : Int) = (m : Int) := by rw [rd_toI, ← ha, getD_app_at]
    have e2 : rd (toI (a ++ m :: z)) (((items (less p i))[q] : Nat) : Int) = ((a.getD (items (less p i))[q] 0 : Nat) : Int) := by rw [rd_toI, getD_app_l (by omega)]
    rw [e1, e2, wrap_succ (by omega), wrap_succ (by omega), mx_nat, Int.toNat_natCast, toI_set]
    have e3 : ∀ x, (a ++ m :: z).set i x = a ++ x :: z := fun x => by rw [← ha]; exact set_app_at
    rw [e3]
    refine implHeights_l1' g i hi a z ha hz hb r d (q + 1) _ (by omega) (by omega) ?_
    rw [List.drop_eq_getElem_cons hq, List.foldl_cons] at c; exact c
theorem hs_state {p : List Nat} {i : Nat} (h : i < p.length) : hs p i ++ List.replicate (p.length - i) 0 = hs p i ++ 0 :: List.replicate (p.length - (i + 1)) 0 := by
  rw [show p.length - i = (p.length - (i + 1)) + 1 by omega, List.replicate_succ]
theorem hs_next {p : List Nat} {i : Nat} : hs p i ++ stepH p (hs p i) i :: List.replicate (p.length - (i + 1)) 0 = hs p (i + 1) ++ List.replicate (p.length - (i + 1)) 0 := by
  rw [hs, List.append_assoc]; rfl
theorem implHeights_l0 {p : List Nat} (g : Good p) : ∀ (d i : Nat), i + d = p.length → Ev (fun k => impl_Poset_heights.l0 k (toI (hs p i ++ List.replicate (p.length - i) 0)) (toI p) ((toI p).length : Int) (i : Int)) (toI (ht p))
  | 0, i, h => by
    refine Ev.step (fun _ => impl_Poset_heights.l0.eq_2 ..) (ev_neg (by rw [toI_len]; omega) ?_)
    obtain rfl : i = p.length := by omega
    rw [Nat.sub_self, List.replicate_zero, List.append_nil]; exact Ev.now _
  | d + 1, i, h => by
    have gl := g.le
    refine Ev.step (fun _ => impl_Poset_heights.l0.eq_2 ..) (ev_pos (by rw [toI_len]; omega) (ev_pos (by omega) (ev_pos (by rw [toI_len]; omega) ?_)))
    rw [rd_less]
    refine Ev.bind (items_ev (g.lt63 _)) ?_
    rw [hs_state (by omega)]
    refine implHeights_l1' g i (by omega) _ _ (hs_len p i) (by rw [List.length_replicate]; omega) (hs_le p i) _ _ 0 0 (Nat.zero_add _) (Nat.zero_le _) ?_
    rw [List.drop_zero, foldl_items_n _ _ (g.lt i (by omega)) (by omega)]
    have := implHeights_l0 g d (i + 1) (by omega)
    rw [← hs_next] at this; exact this
theorem implHeights_ev {p : List Nat} (g : Good p) : Ev (fun k => impl_Poset_heights.f k (toI p)) (toI (ht p)) := by
  have gl := g.le
  refine ev_call (n_eq _) (ev_pos (by omega) (ev_pos (by rw [toI_len]; omega) ?_))
  rw [toI_len, Int.toNat_natCast, show (0 : Int) = ((0 : Nat) : Int) from rfl, toI_rep]
  have := implHeights_l0 g p.length 0 (by omega)
  simpa [hs] using this
theorem l1Most_eq (a b : Nat) : spec_l1Most.f (a : Int) (b : Int) = some ((max a b : Nat) : Int) := by
  unfold spec_l1Most.f; split <;> (refine congrArg some ?_; omega)
theorem specHeights_l1 {p : List Nat} (g : Good p) (i : Nat) (hi : i < p.length) (a z : List Nat) (ha : a.length = i) (hz : i + 1 + z.length = p.length) (hb : ∀ e, a.getD e 0 ≤ e) (r : List Int) : ∀ (d e m : Nat), e + d = i →
    m ≤ i → Ev (fun k => spec_poHeights.l0 k (toI (a ++ (List.range' e d).foldl (fun m e => if (less p i).testBit e = true then max m (a.getD e 0 + 1) else m) m :: z)) (toI p) ((toI p).length : Int) ((i + 1 : Nat) : Int)) r →
    Ev (fun k => spec_poHeights.l1 k (toI (a ++ m :: z)) (i : Int) ((less p i : Nat) : Int) (e : Int) (toI p) ((toI p).length : Int) (i : Int)) r
  | 0, e, m, h, hm, c => by
    have := g.le
    refine Ev.step (fun _ => spec_poHeights.l1.eq_2 ..) (ev_neg (by omega) ?_)
    rw [wrap_succ (by omega)]
    exact c
  | d + 1, e, m, h, hm, c => by
    have gl := g.le
    have hx := hb e
    have e1 : rd (toI (a ++ m :: z)) (i : Int) = (m : Int) := by rw [rd_toI, ← ha, getD_app_at]
    have e2 : rd (toI (a ++ m :: z)) (e : Int) = ((a.getD e 0 : Nat) : Int) := by rw [rd_toI, getD_app_l (by omega)]
    rw [List.range'_succ, List.foldl_cons] at c
    refine Ev.step (fun _ => spec_poHeights.l1.eq_2 ..) (ev_pos (by omega) (ev_call (poIn_eq (by omega)) (ev_ite (fun ht => ?_) (fun ht => ?_))))
    · refine ev_pos (by omega) (ev_pos (by rw [toI_len]; simp; omega) (ev_pos (by omega) (ev_pos (by rw [toI_len]; simp; omega) ?_)))
      rw [e1, e2, wrap_succ (by omega)]
      refine ev_call (l1Most_eq _ _) ?_
      rw [Int.toNat_natCast, toI_set, wrap_succ (by omega)]
      have e3 : (a ++ m :: z).set i (max m (a.getD e 0 + 1)) = a ++ max m (a.getD e 0 + 1) :: z := by rw [← ha]; exact set_app_at
      rw [e3]
      rw [if_pos ht] at c
      exact specHeights_l1 g i hi a z ha hz hb r d (e + 1) _ (by omega) (by omega) c
    · rw [wrap_succ (by omega)]
      rw [if_neg ht] at c
      exact specHeights_l1 g i hi a z ha hz hb r d (e + 1) _ (by omega) (by omega) c
theorem specHeights_l0 {p : List Nat} (g : Good p) : ∀ (d i : Nat), i + d = p.length → Ev (fun k => spec_poHeights.l0 k (toI (hs p i ++ List.replicate (p.length - i) 0)) (toI p) ((toI p).length : Int) (i : Int)) (toI (ht p))
  | 0, i, h => by
    refine Ev.step (fun _ => spec_poHeights.l0.eq_2 ..) (ev_neg (by rw [toI_len]; omega) ?_)
    obtain rfl : i = p.length := by omega
    rw [Nat.sub_self, List.replicate_zero, List.append_nil]; exact Ev.now _
  | d + 1, i, h => by
    have gl := g.le
    refine Ev.step (fun _ => spec_poHeights.l0.eq_2 ..) (ev_pos (by rw [toI_len]; omega) (ev_pos (by omega) (ev_pos (by rw [toI_len]; omega) ?_)))
    rw [rd_less, hs_state (by omega)]
    refine specHeights_l1 g i (by omega) _ _ (hs_len p i) (by rw [List.length_replicate]; omega) (hs_le p i) _ i 0 0 (by omega) (Nat.zero_le _) ?_
    have := specHeights_l0 g d (i + 1) (by omega)
    rw [← hs_next] at this
    rw [← List.range_eq_range']; exact this
theorem specHeights_ev {p : List Nat} (g : Good p) : Ev (fun k => spec_poHeights.f k (toI p)) (toI (ht p)) := by
  have gl := g.le
  refine ev_pos (by omega) (ev_pos (by rw [toI_len]; omega) ?_)
  rw [toI_len, Int.toNat_natCast, show (0 : Int) = ((0 : Nat) : Int) from rfl, toI_rep]
  have := specHeights_l0 g p.length 0 (by omega)
  simpa [hs] using this
def covB (p : List Nat) (j i : Nat) : Bool := (less p i).testBit j && (List.range' (j + 1) (i - (j + 1))).all fun k => !((less p i).testBit k && (less p k).testBit j)
def pairs (p : List Nat) : List (List Int) := (List.range p.length).flatMap fun j => ((List.range p.length).filter fun i => covB p j i).map fun i => [((j : Nat) : Int), ((i : Nat) : Int)]
theorem foldSd_bit (p : List Nat) (s a i : Nat) : ∀ n, (foldBits n s (fun o e => sd o (less p e)) a).testBit i = true ↔ (a.testBit i = true ∧ ∀ e, e < n → s.testBit e = true → (less p e).testBit i = false)
  | 0 => by simp [foldBits]
  | n + 1 => by
    rw [foldBits_succ]
    have ih := foldSd_bit p s a i n
    split
    · rename_i hs
      rw [sd_bit, Bool.and_eq_true, ih, Bool.not_eq_true']
      constructor
      · rintro ⟨⟨h1, h2⟩, h3⟩
        refine ⟨h1, fun e he hb => ?_⟩
        by_cases c : e = n
        · subst c; exact h3
        · exact h2 e (by omega) hb
      · rintro ⟨h1, h2⟩
        exact ⟨⟨h1, fun e he hb => h2 e (by omega) hb⟩, h2 n (by omega) hs⟩
    · rename_i hs
      rw [ih]
      constructor
      · rintro ⟨h1, h2⟩
        refine ⟨h1, fun e he hb => ?_⟩
        by_cases c : e = n
        · subst c; exact absurd hb hs
        · exact h2 e (by omega) hb
      · rintro ⟨h1, h2⟩
        exact ⟨h1, fun e he hb => h2 e (by omega) hb⟩
def cov (p : List Nat) (i : Nat) : Nat := foldBits i (less p i) (fun o e => sd o (less p e)) (less p i)
theorem cov_bit {p : List Nat} (g : Good p) (i j : Nat) : (cov p i).testBit j = covB p j i := by
  unfold cov covB
  rw [Bool.eq_iff_iff, foldSd_bit, Bool.and_eq_true, List.all_eq_true]
  constructor
  · rintro ⟨h1, h2⟩
    refine ⟨h1, fun k hk => ?_⟩
    rw [List.mem_range'_1] at hk
    cases hb : (less p i).testBit k
    · rfl
    · rw [h2 k (by omega) hb]; rfl
  · rintro ⟨h1, h2⟩
    refine ⟨h1, fun k hk hb => ?_⟩
    cases hc : (less p k).testBit j
    · rfl
    · have b := g.bit hc
      have := h2 k (by rw [List.mem_range'_1]; omega)
      rw [hb, hc] at this; cases this
theorem covered_l0 {p : List Nat} (g : Good p) (s : Nat) (hs : s < 2 ^ p.length) : ∀ (d q a : Nat), q + d = (items s).length → a < 2 ^ p.length →
    Ev (fun k => impl_Poset_covered.l0 k (a : Int) (toI (items s)) ((toI (items s)).length : Int) (q : Int) (toI p)) (((((items s).drop q).foldl (fun o e => sd o (less p e)) a : Nat)) : Int)
  | 0, q, a, h, ha => by
    refine Ev.step (fun _ => impl_Poset_covered.l0.eq_2 ..) (ev_neg (by rw [toI_len]; omega) ?_)
    rw [List.drop_of_length_le (by omega)]; exact Ev.now _
  | d + 1, q, a, h, ha => by
    have hq : q < (items s).length := by omega
    have hm := items_get hq
    have hb := bit_lt hs hm.2
    have hl := items_len s
    refine Ev.step (fun _ => impl_Poset_covered.l0.eq_2 ..) ?_
    rw [rd_items hq, toI_len, toI_len]
    refine ev_pos (by omega) (ev_pos (by omega) (ev_pos (by omega) (ev_pos (by omega) (ev_pos (by omega) ?_))))
    rw [rd_less, bits_andNot (g.len63 ha) (g.lt63 _), wrap_succ (by omega), List.drop_eq_getElem_cons hq, List.foldl_cons, ← toI_len]
    exact covered_l0 g s hs d (q + 1) _ (by omega) (sd_lt _ ha)
theorem covered_ev {p : List Nat} (g : Good p) {i : Nat} (hi : i < p.length) : Ev (fun k => impl_Poset_covered.f k (toI p) (i : Int)) ((cov p i : Nat) : Int) := by
  refine ev_pos (by omega) (ev_pos (by rw [toI_len]; omega) ?_)
  rw [rd_less]
  refine Ev.bind (items_ev (g.lt63 i)) ?_
  have h := covered_l0 g (less p i) (g.lt10 i) _ 0 (less p i) (Nat.zero_add _) (g.lt10 i)
  rw [List.drop_zero, foldl_items_n _ _ (g.lt i hi) (by have := g.le; omega)] at h
  exact h
def pairsAt (p : List Nat) (j i d : Nat) : List (List Int) := ((List.range' i d).filter fun i => covB p j i).map fun i => [((j : Nat) : Int), ((i : Nat) : Int)]
def pairsTo (p : List Nat) (j d : Nat) : List (List Int) := (List.range' j d).flatMap fun j => pairsAt p j 0 p.length
theorem cov_lt {p : List Nat} (g : Good p) (i : Nat) : cov p i < 2 ^ 63 := g.len63 (foldBits_inv _ _ _ _ (· < 2 ^ p.length) (g.lt10 i) (fun a e ha _ _ => sd_lt _ ha))
theorem implCovers_l1 {p : List Nat} (g : Good p) (j : Nat) (hj : j < p.length) (r : List (List Int)) : ∀ (d i : Nat) (acc : List (List Int)), i + d = p.length → acc.length + d ≤ 1000 →
    Ev (fun k => impl_Poset_covers.l0 k (acc ++ pairsAt p j i d) (p.length : Int) ((j + 1 : Nat) : Int) (toI p)) r →
    Ev (fun k => impl_Poset_covers.l1 k acc (j : Int) (p.length : Int) (j : Int) (p.length : Int) (i : Int) (toI p)) r
  | 0, i, acc, h, ha, c => by
    have gl := g.le
    refine Ev.step (fun _ => impl_Poset_covers.l1.eq_2 ..) (ev_neg (by omega) ?_)
    rw [wrap_succ (by omega)]
    simpa [pairsAt] using c
  | d + 1, i, acc, h, ha, c => by
    have gl := g.le
    refine Ev.step (fun _ => impl_Poset_covers.l1.eq_2 ..) (ev_pos (by omega) (Ev.bind (covered_ev g (by omega)) (ev_call (has_eq (cov_lt g i) (by omega)) ?_)))
    rw [cov_bit g, wrap_succ (by omega)]
    refine ev_ite (fun e => ?_) (fun e => ?_)
    · refine ev_pos (by omega) (implCovers_l1 g j hj r d (i + 1) _ (by omega) (by simp; omega) ?_)
      rw [List.append_assoc]
      have : pairsAt p j i (d + 1) = [[(j : Int), (i : Int)]] ++ pairsAt p j (i + 1) d := by simp [pairsAt, List.range'_succ, e]
      rw [this] at c; exact c
    · refine implCovers_l1 g j hj r d (i + 1) _ (by omega) (by omega) ?_
      have : pairsAt p j i (d + 1) = pairsAt p j (i + 1) d := by simp [pairsAt, List.range'_succ, e]
      rw [this] at c; exact c
theorem pairsAt_len (p : List Nat) (j i d : Nat) : (pairsAt p j i d).length ≤ d := by
  unfold pairsAt
  rw [List.length_map]
  exact Nat.le_trans (List.length_filter_le _ _) (by simp)
theorem implCovers_l0 {p : List Nat} (g : Good p) : ∀ (d j : Nat) (acc : List (List Int)), j + d = p.length → acc.length + 10 * d ≤ 100 →
    Ev (fun k => impl_Poset_covers.l0 k acc (p.length : Int) (j : Int) (toI p)) (acc ++ pairsTo p j d)
  | 0, j, acc, h, ha => by
    refine Ev.step (fun _ => impl_Poset_covers.l0.eq_2 ..) (ev_neg (by omega) ?_)
    simpa [pairsTo] using Ev.now acc
  | d + 1, j, acc, h, ha => by
    have gl := g.le
    have := pairsAt_len p j 0 p.length
    refine Ev.step (fun _ => impl_Poset_covers.l0.eq_2 ..) (ev_pos (by omega) (ev_call (n_eq _) ?_))
    rw [toI_len]
    refine implCovers_l1 g j (by omega) _ p.length 0 acc (by omega) (by omega) ?_
    have ih := implCovers_l0 g d (j + 1) (acc ++ pairsAt p j 0 p.length) (by omega) (by simp; omega)
    rw [List.append_assoc] at ih
    have e : pairsTo p j (d + 1) = pairsAt p j 0 p.length ++ pairsTo p (j + 1) d := by simp [pairsTo, List.range'_succ]
    rw [e]; exact ih
theorem pairsTo_eq (p : List Nat) : pairsTo p 0 p.length = pairs p := by unfold pairsTo pairs pairsAt; rw [← List.range_eq_range']
theorem implCovers_ev {p : List Nat} (g : Good p) : Ev (fun k => impl_Poset_covers.f k (toI p)) (pairs p) := by
  have gl := g.le
  refine ev_call (n_eq _) ?_
  rw [toI_len]
  have := implCovers_l0 g p.length 0 [] (by omega) (by simp; omega)
  rw [List.nil_append, pairsTo_eq] at this; exact this
theorem specCov_l0 {p : List Nat} (g : Good p) (j i : Nat) (hj : j < p.length) (hi : i < p.length) : ∀ (d k : Nat), k + d = i → Ev (fun n => spec_poCovers.l0 n (j : Int) (i : Int) (k : Int) (toI p)) ((List.range' k d).all fun k => !((less p i).testBit k && (less p k).testBit j))
  | 0, k, h => by
    refine Ev.step (fun _ => spec_poCovers.l0.eq_2 ..) (ev_neg (by omega) ?_)
    simpa using Ev.now true
  | d + 1, k, h => by
    have gl := g.le
    have ih := specCov_l0 g j i hj hi d (k + 1) (by omega)
    refine Ev.step (fun _ => spec_poCovers.l0.eq_2 ..) (ev_pos (by omega) (ev_pos (by omega) (ev_pos (by rw [toI_len]; omega) ?_)))
    rw [rd_less, wrap_succ (by omega), List.range'_succ, List.all_cons]
    refine ev_call (poIn_eq (by omega)) (ev_ite (fun e => ?_) (fun e => ?_))
    · rw [e, Bool.true_and]
      refine ev_pos (by omega) (ev_pos (by rw [toI_len]; omega) ?_)
      rw [rd_less]
      refine ev_call (poIn_eq (by omega)) (ev_ite (fun e2 => ?_) (fun e2 => ?_))
      · rw [e2]; exact Ev.now _
      · rw [Bool.eq_false_iff.mpr e2, Bool.not_false, Bool.true_and]; exact ih
    · rw [Bool.eq_false_iff.mpr e, Bool.false_and, Bool.not_false, Bool.true_and]; exact ih
theorem specCov_ev {p : List Nat} (g : Good p) {j i : Nat} (hj : j < p.length) (hi : i < p.length) : Ev (fun k => spec_poCovers.f k (toI p) (j : Int) (i : Int)) (covB p j i) := by
  have gl := g.le
  refine ev_pos (by omega) (ev_pos (by rw [toI_len]; omega) ?_)
  rw [rd_less]
  unfold covB
  refine ev_call (poIn_eq (by omega)) (ev_ite (fun e => ?_) (fun e => ?_))
  · rw [e, Bool.true_and, wrap_succ (by omega)]
    have b := g.bit e
    by_cases hji : j + 1 ≤ i
    · exact specCov_l0 g j i hj hi _ (j + 1) (by omega)
    · omega
  · rw [Bool.eq_false_iff.mpr e, Bool.false_and]; exact Ev.now _
theorem specPairs_l1 {p : List Nat} (g : Good p) (j : Nat) (hj : j < p.length) (r : List (List Int)) : ∀ (d i : Nat) (acc : List (List Int)), i + d = p.length → acc.length + d ≤ 1000 →
    Ev (fun k => spec_poPairs.l0 k (acc ++ pairsAt p j i d) (p.length : Int) ((j + 1 : Nat) : Int) (toI p)) r →
    Ev (fun k => spec_poPairs.l1 k acc (j : Int) (p.length : Int) (j : Int) (p.length : Int) (i : Int) (toI p)) r
  | 0, i, acc, h, ha, c => by
    have gl := g.le
    refine Ev.step (fun _ => spec_poPairs.l1.eq_2 ..) (ev_neg (by omega) ?_)
    rw [wrap_succ (by omega)]
    simpa [pairsAt] using c
  | d + 1, i, acc, h, ha, c => by
    have gl := g.le
    refine Ev.step (fun _ => spec_poPairs.l1.eq_2 ..) (ev_pos (by omega) (Ev.bind (specCov_ev g hj (by omega)) ?_))
    rw [wrap_succ (by omega)]
    refine ev_ite (fun e => ?_) (fun e => ?_)
    · refine ev_pos (by omega) (specPairs_l1 g j hj r d (i + 1) _ (by omega) (by simp; omega) ?_)
      rw [List.append_assoc]
      have : pairsAt p j i (d + 1) = [[(j : Int), (i : Int)]] ++ pairsAt p j (i + 1) d := by simp [pairsAt, List.range'_succ, e]
      rw [this] at c; exact c
    · refine specPairs_l1 g j hj r d (i + 1) _ (by omega) (by omega) ?_
      have : pairsAt p j i (d + 1) = pairsAt p j (i + 1) d := by simp [pairsAt, List.range'_succ, e]
      rw [this] at c; exact c
theorem specPairs_l0 {p : List Nat} (g : Good p) : ∀ (d j : Nat) (acc : List (List Int)), j + d = p.length → acc.length + 10 * d ≤ 100 →
    Ev (fun k => spec_poPairs.l0 k acc (p.length : Int) (j : Int) (toI p)) (acc ++ pairsTo p j d)
  | 0, j, acc, h, ha => by
    refine Ev.step (fun _ => spec_poPairs.l0.eq_2 ..) (ev_neg (by omega) ?_)
    simpa [pairsTo] using Ev.now acc
  | d + 1, j, acc, h, ha => by
    have gl := g.le
    have := pairsAt_len p j 0 p.length
    refine Ev.step (fun _ => spec_poPairs.l0.eq_2 ..) (ev_pos (by omega) ?_)
    rw [toI_len]
    refine specPairs_l1 g j (by omega) _ p.length 0 acc (by omega) (by omega) ?_
    have ih := specPairs_l0 g d (j + 1) (acc ++ pairsAt p j 0 p.length) (by omega) (by simp; omega)
    rw [List.append_assoc] at ih
    have e : pairsTo p j (d + 1) = pairsAt p j 0 p.length ++ pairsTo p (j + 1) d := by simp [pairsTo, List.range'_succ]
    rw [e]; exact ih
theorem specPairs_ev {p : List Nat} (g : Good p) : Ev (fun k => spec_poPairs.f k (toI p)) (pairs p) := by
  have gl := g.le
  unfold spec_poPairs.f
  rw [toI_len]
  have := specPairs_l0 g p.length 0 [] (by omega) (by simp; omega)
  rw [List.nil_append, pairsTo_eq] at this; exact this
theorem mem_pairs {p : List Nat} {c : List Int} (h : c ∈ pairs p) : ∃ j i : Nat, c = [((j : Nat) : Int), ((i : Nat) : Int)] ∧ j < p.length ∧ i < p.length ∧ covB p j i = true := by
  unfold pairs at h
  simp only [List.mem_flatMap, List.mem_range, List.mem_map, List.mem_filter] at h
  obtain ⟨j, hj, i, ⟨hi, hc⟩, rfl⟩ := h
  exact ⟨j, i, rfl, hj, hi, hc⟩
theorem pairs_len {p : List Nat} (g : Good p) : (pairs p).length ≤ 100 := by
  have gl := g.le
  have : ∀ (d j : Nat), (pairsTo p j d).length ≤ 10 * d := by
    intro d
    induction d with
    | zero => intro j; simp [pairsTo]
    | succ d ih =>
      intro j
      have e : pairsTo p j (d + 1) = pairsAt p j 0 p.length ++ pairsTo p (j + 1) d := by simp [pairsTo, List.range'_succ]
      rw [e, List.length_append]
      have := pairsAt_len p j 0 p.length
      have := ih (j + 1)
      omega
  rw [← pairsTo_eq]
  have := this p.length 0
  omega
def rankedB (p : List Nat) : Bool := (pairs p).all fun c => rd (toI (ht p)) (rd c 1) == rd (toI (ht p)) (rd c 0) + 1
theorem poRanked_l0 {p : List Nat} (g : Good p) : ∀ (d q : Nat), q + d = (pairs p).length → Ev (fun k => spec_poRanked.l0 k (toI (ht p)) (pairs p) ((pairs p).length : Int) (q : Int)) (((pairs p).drop q).all fun c => rd (toI (ht p)) (rd c 1) == rd (toI (ht p)) (rd c 0) + 1)
  | 0, q, h => by
    refine Ev.step (fun _ => spec_poRanked.l0.eq_2 ..) (ev_neg (by omega) ?_)
    rw [List.drop_of_length_le (by omega)]; exact Ev.now _
  | d + 1, q, h => by
    have gl := g.le
    have hp := pairs_len g
    have hq : q < (pairs p).length := by omega
    have er : rd_L1 (pairs p) (q : Int) = (pairs p)[q] := by simp [rd_L1, List.getD_eq_getElem?_getD, hq]
    obtain ⟨j, i, e, hj, hi, hc⟩ := mem_pairs (List.getElem_mem hq)
    have e0 : rd (pairs p)[q] 0 = (j : Int) := by rw [e]; rfl
    have e1 : rd (pairs p)[q] 1 = (i : Int) := by rw [e]; rfl
    have el : (pairs p)[q].length = 2 := by rw [e]; rfl
    have b0 := hh_le p j
    refine Ev.step (fun _ => spec_poRanked.l0.eq_2 ..) (ev_pos (by omega) (ev_pos (by omega) (ev_pos (by omega) ?_)))
    have ih := poRanked_l0 g d (q + 1) (by omega)
    have hj' : rd (toI (ht p)) (j : Int) = ((hh p j : Nat) : Int) := rd_toI _ _
    rw [er, e0, e1, el, List.drop_eq_getElem_cons hq, List.all_cons, e0, e1, wrap_succ (by omega), toI_len, ht_len, hj', wrap_succ (by omega)]
    refine ev_pos (by omega) (ev_pos (by omega) (ev_pos (by omega) (ev_pos (by omega) (ev_pos (by omega) (ev_pos (by omega) (ev_ite (fun e => ?_) (fun e => ?_)))))))
    · have e' : (rd (toI (ht p)) (i : Int) == ((hh p j : Nat) : Int) + 1) = true := by rw [beq_iff_eq, e]; rfl
      rw [e', Bool.true_and]; exact ih
    · have e' : (rd (toI (ht p)) (i : Int) == ((hh p j : Nat) : Int) + 1) = false := by rw [beq_eq_false_iff_ne]; exact e
      rw [e', Bool.false_and]; exact Ev.now _
theorem poRanked_ev {p : List Nat} (g : Good p) : Ev (fun k => spec_poRanked.f k (toI p)) (rankedB p) :=
  Ev.bind (specHeights_ev g) (Ev.bind (specPairs_ev g) (poRanked_l0 g _ 0 (Nat.zero_add _)))
def rgB (l : List Int) : Bool := goodB l && rankedB (l.map Int.toNat)
theorem rvGood_ev (l : List Int) : Ev (fun k => spec_rvGood.f k l) (rgB l) := by
  refine Ev.bind (poGood_ev l) ?_
  unfold rgB
  refine ev_ite (fun e => ?_) (fun e => ?_)
  · obtain ⟨p, rfl, g⟩ := goodB_of e
    rw [e, Bool.true_and, toNat_toI]
    exact Ev.bind (poRanked_ev g) (Ev.now _)
  · rw [Bool.eq_false_iff.mpr e, Bool.false_and]; exact Ev.now _
theorem isRanked_ok {p : List Nat} (g : Good p) : impl_IsRanked.ok (toI (ht p)) (pairs p) = true := by
  unfold impl_IsRanked.ok
  have := pairs_len g
  rw [Bool.and_eq_true, decide_eq_true_eq, List.all_eq_true]
  refine ⟨by omega, fun c hc => ?_⟩
  obtain ⟨j, i, rfl, hj, hi, _⟩ := mem_pairs hc
  have e0 : rd [((j : Nat) : Int), ((i : Nat) : Int)] 0 = (j : Int) := rfl
  have e1 : rd [((j : Nat) : Int), ((i : Nat) : Int)] 1 = (i : Int) := rfl
  rw [e0, e1, toI_len, ht_len]
  simp only [Bool.and_eq_true, decide_eq_true_eq]
  exact ⟨⟨⟨⟨rfl, by omega⟩, by omega⟩, by omega⟩, by omega⟩
theorem isRanked_any {p : List Nat} (g : Good p) : (!((pairs p).any (impl_IsRanked.p (toI (ht p))))) = rankedB p := by
  unfold rankedB
  rw [Bool.eq_iff_iff, Bool.not_eq_true', List.any_eq_false, List.all_eq_true]
  refine forall_congr' fun c => forall_congr' fun hc => ?_
  obtain ⟨j, i, rfl, hj, hi, _⟩ := mem_pairs hc
  have e0 : rd [((j : Nat) : Int), ((i : Nat) : Int)] 0 = (j : Int) := rfl
  have hj' : rd (toI (ht p)) (j : Int) = ((hh p j : Nat) : Int) := rd_toI _ _
  have b0 := hh_le p j
  have gl := g.le
  unfold impl_IsRanked.p
  rw [e0, hj', wrap_succ (by omega), Int.natCast_succ, bne_iff_ne, ne_eq, Classical.not_not, beq_iff_eq]
theorem IsRanked_ev (l : List Int) : Ev (fun k => impl_IsRanked.f k l) (rgB l, goodB l) := by
  refine Ev.bind (isPoset_ev l) ?_
  unfold rgB
  refine ev_ite (fun e => ?_) (fun e => ?_)
  · obtain ⟨p, rfl, g⟩ := goodB_of e
    rw [e, Bool.true_and, toNat_toI]
    refine Ev.bind (implHeights_ev g) (Ev.bind (implCovers_ev g) (ev_pos (isRanked_ok g) ?_))
    rw [isRanked_any g]; exact Ev.now _
  · rw [Bool.eq_false_iff.mpr e, Bool.false_and]; exact Ev.now _
theorem isRanked_ev (l : List Int) : Ev (fun k => impl_isRanked.f k l) (rgB l) := Ev.bind (IsRanked_ev l) (Ev.now _)
theorem rgB_of {l : List Int} (h : rgB l = true) : ∃ p, l = toI p ∧ Good p ∧ rankedB p = true := by
  unfold rgB at h
  rw [Bool.and_eq_true] at h
  obtain ⟨p, rfl, g⟩ := goodB_of h.1
  exact ⟨p, rfl, g, by rw [toNat_toI] at h; exact h.2⟩
end Go.Proofs.Ytpdgiinedbdamaa.M
end
section
namespace Go.Proofs.Ytpdgiinedbdamaa.L
open Go.RowKit Go.Proofs.YtpdgiinedbdamaaW.PrintWords Go.Proofs.YtpdgiinedbdamaaW.PrintLast Go.Proofs.YtpdgiinedbdamaaW.PrintMore
attribute [local go_sem] max2_int min2_int max_two min_two max_three min_three max_four min_four
set_option linter.unusedVariables false
set_option linter.unusedSimpArgs false
def spec_poDown.l0 : Nat → Int → Int → List Int → Int → Int → Option (Int)
  | 0, _, _, _, _, _ => none
  | k + 1, x1, x5, x10, x11, x12 => if x12 < x11 then (if 0 ≤ x12 then (if x12 < (x10.length : Int) then ((spec_poIn.f x1 x12).bind fun t869 => (if t869 = true then (spec_poDown.l0 k x1 (Go.bits .or .i64 x5 (rd x10 x12)) x10 x11 (wrap64 (x12 + 1))) else (spec_poDown.l0 k x1 x5 x10 x11 (wrap64 (x12 + 1))))) else (none)) else (none)) else (some x5)
def spec_poDown.f (k : Nat) (l0_0 : List Int) (a1 : Int) : Option (Int) := spec_poDown.l0 k a1 a1 l0_0 (l0_0.length : Int) 0
theorem spec_poDown.mono_l : ∀ k, (∀ y0 y1 y2 y3 y4, LeO (spec_poDown.l0 k y0 y1 y2 y3 y4) (spec_poDown.l0 (k + 1) y0 y1 y2 y3 y4))
  | 0 => fun _ _ _ _ _ r h => by simp [spec_poDown.l0] at h
  | k + 1 => by
    have ih0 := spec_poDown.mono_l k
    · intro y0 y1 y2 y3 y4
      unfold spec_poDown.l0
      repeat' first
      | (with_reducible exact ih0 _ _ _ _ _)
      | (with_reducible exact LeO.refl _)
      | (with_reducible exact LeO.none _)
      | (with_reducible refine LeO.ite ?_ ?_)
      | (with_reducible refine LeO.bind ?_ (fun _ => ?_))
      | exact ih0 _ _ _ _ _
      | exact LeO.none _
      | refine LeO.ite ?_ ?_
      | refine LeO.bind ?_ (fun _ => ?_)
theorem spec_poDown.mono : ∀ a0 a1 k, LeO (spec_poDown.f k a0 a1) (spec_poDown.f (k + 1) a0 a1) := by
  intro a0 a1 k
  have ih0 := spec_poDown.mono_l k
  unfold spec_poDown.f
  repeat' first
      | (with_reducible exact ih0 _ _ _ _ _)
      | (with_reducible exact LeO.refl _)
      | (with_reducible exact LeO.none _)
      | (with_reducible refine LeO.ite ?_ ?_)
      | (with_reducible refine LeO.bind ?_ (fun _ => ?_))
      | exact ih0 _ _ _ _ _
      | exact LeO.none _
      | refine LeO.ite ?_ ?_
      | refine LeO.bind ?_ (fun _ => ?_)
set_option maxHeartbeats 8000000 in
set_option maxRecDepth 100000 in
theorem spec_poDown.calls (k : Nat) (A0_0 : Option Addr) (c0_0 : Nat) (l0_0 : List Int) (a1 : Int) (r : Int) (w : World) (hr0_0 : Kd.C (Kd.int .i64) w A0_0 l0_0.length l0_0) (hc0_0 : l0_0.length ≤ c0_0) (h : spec_poDown.f k l0_0 a1 = some r) :
    Calls Try.prog 126 #[.agg #[.slice A0_0 l0_0.length c0_0], .int .i64 a1] w fun e w' => e = .returned (.int .i64 r) ∧ Below w.heap.size w w' := by
  have hu28 := Try.underlying28
  have HR0_0 := Aside0.mk hr0_0
  have HC0_0 := Aside0.mk hc0_0
  clear hr0_0 hc0_0
  have HB := Aside0.mk (Below.refl w.heap.size w)
  have H : (spec_poDown.l0 k a1 a1 l0_0 (l0_0.length : Int) 0) = some r := h
  clear h
  have H' := Aside0.mk H
  clear H
  go_enter Try.func126, Try.ntmps126
  go_wp2_with (first | ((with_reducible refine gate_dst (N := 2) rfl ?_); refine box_event ?hg (N := 2) ?hd (cs := #[.slice A0_0 l0_0.length c0_0]) (t := 28) ?hr ?_; (case hd => rfl); (case hg => rfl); (case hr => first | (go_simp; done) | (go_simp; rfl)); intro gb867 hg w3 hbox hb; have n0_ := Aside0.mk (below_step (by repeat (first | (with_reducible first | exact HB.out | apply below_alloc | apply pw_below_drewN | apply below_drew1) | exact HB.out)) hb); have n1_ := Aside0.mk (hbox); have n2_ := Aside0.mk ((by rw [hg]; exact (below_size (by repeat (first | (with_reducible first | exact HB.out | apply below_alloc | apply pw_below_drewN | apply below_drew1) | exact HB.out))) : w.heap.size ≤ gb867)); have n3_ := Aside0.mk ((by rw [hg]; exact (below_size (by repeat (first | (with_reducible first | exact HB.out | apply below_alloc | apply pw_below_drewN | apply below_drew1) | exact HB.out))) : w.heap.size ≤ gb867)); clear HB; have HB := n0_; have BK867 := n1_; have GW867 := n2_; have GE867 := n3_; clear n0_ n1_ n2_ n3_; clear hb hbox hg; have hcz4_0 : w3.cell? ⟨gb867, 0, none⟩ = some (.slice A0_0 l0_0.length c0_0) := (blk_cell BK867.out 0).trans rfl; have hfz4_0 := blk_frozen BK867.out 0))
  go_loopg [5, 12] k (fun kq v5 v12 w' => ∃ (x5_1 : Int) (x12_1 : Int), v5 = .int .i64 x5_1 ∧ v12 = .int .i64 x12_1 ∧ Aside0 (spec_poDown.l0 kq a1 x5_1 l0_0 (l0_0.length : Int) x12_1 = some r) ∧ Aside0 (kq ≤ k) ∧ Aside0 (w'.heap[gb867]? = some (.cells #[(.slice A0_0 l0_0.length c0_0)] 28 (0, 0))) ∧ Aside0 (Below w.heap.size w w'))
  case atStart => exact ⟨(a1), (0), (by first | rfl | (simp; done) | (simp [*]; done)), (by first | rfl | (simp; done) | (simp [*]; done)), H', ⟨Nat.le_refl _⟩, ⟨by (with_reducible repeat (first | refine blk_drewN ?_ _ | refine blk_drew ?_ | refine blk_alloc ?_ _)); exact BK867.out⟩, ⟨by repeat (first | (with_reducible first | exact HB.out | apply below_alloc | apply pw_below_drewN | apply below_drew1 | refine below_set ?_ GE867.out) | exact HB.out)⟩⟩
  case round =>
    clear H'
    try clear c1
    try clear p2
    try clear hcz4_0
    try clear hfz4_0
    obtain ⟨x5_1, x12_1, rfl, rfl, HA, HK1, BK867, HB⟩ := hrel
    cases gk with
    | zero => exact absurd HA.out (by simp [spec_poDown.l0])
    | succ k1 =>
      have H := HA.out
      clear HA
      simp only [spec_poDown.l0] at H
      by_cases c5 : x12_1 < (l0_0.length : Int)
      · rw [if_pos c5] at H
        have c5b0 : decide (x12_1 < (l0_0.length : Int)) = true := decide_eq_true c5
        clear c5
        by_cases c6 : 0 ≤ x12_1
        · rw [if_pos c6] at H
          have c6b0 : decide (0 ≤ x12_1) = true := decide_eq_true c6
          clear c6
          by_cases c7 : x12_1 < (l0_0.length : Int)
          · rw [if_pos c7] at H
            have c7b0 : decide (x12_1 < (l0_0.length : Int)) = true := decide_eq_true c7
            clear c7
            replace H := Option.bind_eq_some_iff.mp H
            obtain ⟨t869, A80, H⟩ := H
            replace H : (if t869 = true then (spec_poDown.l0 k1 a1 (Go.bits .or .i64 x5_1 (rd l0_0 x12_1)) l0_0 (l0_0.length : Int) (wrap64 (x12_1 + 1))) else (spec_poDown.l0 k1 a1 x5_1 l0_0 (l0_0.length : Int) (wrap64 (x12_1 + 1)))) = some r := H
            have A8 := Aside0.mk A80
            clear A80
            by_cases c9 : t869 = true
            · subst c9
              have H1 : (spec_poDown.l0 k1 a1 (Go.bits .or .i64 x5_1 (rd l0_0 x12_1)) l0_0 (l0_0.length : Int) (wrap64 (x12_1 + 1))) = some r := by rw [if_pos rfl] at H; exact H
              clear H
              have H := H1
              clear H1
              have H' := Aside0.mk H
              clear H
              have p868 : 0 ≤ (x12_1 : Int) := of_decide_eq_true (by first | (with_reducible assumption) | assumption)
              have q868 : x12_1 < (l0_0.length : Int) := of_decide_eq_true (by first | (with_reducible assumption) | assumption)
              obtain ⟨ad868, e868, hx868_0⟩ := Kd.at_int HR0_0.out x12_1 p868 q868
              cases e868
              replace hx868_0 := (HB.out.cell (World.block_lt_of_cell? w _ hx868_0)).trans hx868_0
              replace p868 := eq_true p868
              replace q868 := eq_true q868
              go_wp2_with (first | ((with_reducible refine gate_callee (f := 136) rfl ?_); refine goesL_ (some 19) rfl rfl Try.func136 (by kernel_rfl) rfl #[.int .i64 a1, .int .i64 x12_1] rfl (by (try simp only [List.map_toArray, List.map_cons, List.map_nil]); first | done | rfl | (simp only [List.length_drop, List.length_take]; rfl)) ?_; (with_reducible refine (spec_poIn.calls a1 x12_1 true _ A8.out).mono ?_); rintro e w' ⟨rfl, ⟨nd, rfl⟩⟩; refine ⟨_, rfl, ?_⟩))
              go_roundg k1
              case measure => have := HK1.out; omega
              case rel => exact ⟨(Go.bits .or .i64 x5_1 (rd l0_0 x12_1)), (wrap64 (x12_1 + 1)), (by first | rfl | (simp; done) | (simp [*]; done)), (by first | rfl | (simp; done) | (simp [*]; done)), H', ⟨by have := HK1.out; omega⟩, ⟨by (with_reducible repeat (first | refine blk_drewN ?_ _ | refine blk_drew ?_ | refine blk_alloc ?_ _)); exact BK867.out⟩, ⟨by repeat (first | (with_reducible first | exact HB.out | apply below_alloc | apply pw_below_drewN | apply below_drew1 | refine below_set ?_ GE867.out) | exact HB.out)⟩⟩
            · replace c9 := Bool.eq_false_iff.mpr c9
              subst c9
              have H1 : (spec_poDown.l0 k1 a1 x5_1 l0_0 (l0_0.length : Int) (wrap64 (x12_1 + 1))) = some r := by rw [if_neg (show ¬ (false = true) by decide)] at H; exact H
              clear H
              have H := H1
              clear H1
              have H' := Aside0.mk H
              clear H
              have p868 : 0 ≤ (x12_1 : Int) := of_decide_eq_true (by first | (with_reducible assumption) | assumption)
              have q868 : x12_1 < (l0_0.length : Int) := of_decide_eq_true (by first | (with_reducible assumption) | assumption)
              obtain ⟨ad868, e868, hx868_0⟩ := Kd.at_int HR0_0.out x12_1 p868 q868
              cases e868
              replace hx868_0 := (HB.out.cell (World.block_lt_of_cell? w _ hx868_0)).trans hx868_0
              replace p868 := eq_true p868
              replace q868 := eq_true q868
              go_wp2_with (first | ((with_reducible refine gate_callee (f := 136) rfl ?_); refine goesL_ (some 19) rfl rfl Try.func136 (by kernel_rfl) rfl #[.int .i64 a1, .int .i64 x12_1] rfl (by (try simp only [List.map_toArray, List.map_cons, List.map_nil]); first | done | rfl | (simp only [List.length_drop, List.length_take]; rfl)) ?_; (with_reducible refine (spec_poIn.calls a1 x12_1 false _ A8.out).mono ?_); rintro e w' ⟨rfl, ⟨nd, rfl⟩⟩; refine ⟨_, rfl, ?_⟩))
              go_roundg k1
              case measure => have := HK1.out; omega
              case rel => exact ⟨(x5_1), (wrap64 (x12_1 + 1)), (by first | rfl | (simp; done) | (simp [*]; done)), (by first | rfl | (simp; done) | (simp [*]; done)), H', ⟨by have := HK1.out; omega⟩, ⟨by (with_reducible repeat (first | refine blk_drewN ?_ _ | refine blk_drew ?_ | refine blk_alloc ?_ _)); exact BK867.out⟩, ⟨by repeat (first | (with_reducible first | exact HB.out | apply below_alloc | apply pw_below_drewN | apply below_drew1 | refine below_set ?_ GE867.out) | exact HB.out)⟩⟩
          · rw [if_neg c7] at H
            exact absurd H (by simp)
        · rw [if_neg c6] at H
          exact absurd H (by simp)
      · rw [if_neg c5] at H
        have c5b0 : decide (x12_1 < (l0_0.length : Int)) = false := decide_eq_false c5
        clear c5
        obtain rfl := Option.some.inj H
        go_wp2
        go_ret
        exact ⟨by first | rfl | (simp [errW_none, errW_some] <;> rfl) | (simp [*, errW_none, errW_some] <;> rfl), by repeat (first | (with_reducible first | exact HB.out | apply below_alloc | apply pw_below_drewN | apply below_drew1 | refine below_set ?_ GE867.out) | exact HB.out)⟩
end Go.Proofs.Ytpdgiinedbdamaa.L
end
section
namespace Go.Proofs.Ytpdgiinedbdamaa.L
open Go.RowKit Go.Proofs.YtpdgiinedbdamaaW.PrintWords Go.Proofs.YtpdgiinedbdamaaW.PrintLast Go.Proofs.YtpdgiinedbdamaaW.PrintMore
attribute [local go_sem] max2_int min2_int max_two min_two max_three min_three max_four min_four
set_option linter.unusedVariables false
set_option linter.unusedSimpArgs false
def spec_poBottom.l0 : Nat → Int → Int → List Int → Int → Int → Option (Int)
  | 0, _, _, _, _, _ => none
  | k + 1, x1, x5, x9, x10, x11 => if x11 < x10 then (if 0 ≤ x11 then (if x11 < (x9.length : Int) then ((spec_poIn.f x1 x11).bind fun t872 => (if t872 = true then (if (Go.bits .and .i64 (rd x9 x11) x1) = 0 then (spec_poBottom.l0 k x1 (Go.bits .or .i64 x5 (shl .i64 1 x11)) x9 x10 (wrap64 (x11 + 1))) else (spec_poBottom.l0 k x1 x5 x9 x10 (wrap64 (x11 + 1)))) else (spec_poBottom.l0 k x1 x5 x9 x10 (wrap64 (x11 + 1))))) else (none)) else (none)) else (some x5)
def spec_poBottom.f (k : Nat) (l0_0 : List Int) (a1 : Int) : Option (Int) := spec_poBottom.l0 k a1 0 l0_0 (l0_0.length : Int) 0
theorem spec_poBottom.mono_l : ∀ k, (∀ y0 y1 y2 y3 y4, LeO (spec_poBottom.l0 k y0 y1 y2 y3 y4) (spec_poBottom.l0 (k + 1) y0 y1 y2 y3 y4))
  | 0 => fun _ _ _ _ _ r h => by simp [spec_poBottom.l0] at h
  | k + 1 => by
    have ih0 := spec_poBottom.mono_l k
    · intro y0 y1 y2 y3 y4
      unfold spec_poBottom.l0
      repeat' first
      | (with_reducible exact ih0 _ _ _ _ _)
      | (with_reducible exact LeO.refl _)
      | (with_reducible exact LeO.none _)
      | (with_reducible refine LeO.ite ?_ ?_)
      | (with_reducible refine LeO.bind ?_ (fun _ => ?_))
      | exact ih0 _ _ _ _ _
      | exact LeO.none _
      | refine LeO.ite ?_ ?_
      | refine LeO.bind ?_ (fun _ => ?_)
theorem spec_poBottom.mono : ∀ a0 a1 k, LeO (spec_poBottom.f k a0 a1) (spec_poBottom.f (k + 1) a0 a1) := by
  intro a0 a1 k
  have ih0 := spec_poBottom.mono_l k
  unfold spec_poBottom.f
  repeat' first
      | (with_reducible exact ih0 _ _ _ _ _)
      | (with_reducible exact LeO.refl _)
      | (with_reducible exact LeO.none _)
      | (with_reducible refine LeO.ite ?_ ?_)
      | (with_reducible refine LeO.bind ?_ (fun _ => ?_))
      | exact ih0 _ _ _ _ _
      | exact LeO.none _
      | refine LeO.ite ?_ ?_
      | refine LeO.bind ?_ (fun _ => ?_)
set_option maxHeartbeats 8000000 in
set_option maxRecDepth 100000 in
theorem spec_poBottom.calls (k : Nat) (A0_0 : Option Addr) (c0_0 : Nat) (l0_0 : List Int) (a1 : Int) (r : Int) (w : World) (hr0_0 : Kd.C (Kd.int .i64) w A0_0 l0_0.length l0_0) (hc0_0 : l0_0.length ≤ c0_0) (h : spec_poBottom.f k l0_0 a1 = some r) :
    Calls Try.prog 127 #[.agg #[.slice A0_0 l0_0.length c0_0], .int .i64 a1] w fun e w' => e = .returned (.int .i64 r) ∧ Below w.heap.size w w' := by
  have hu28 := Try.underlying28
  have HR0_0 := Aside0.mk hr0_0
  have HC0_0 := Aside0.mk hc0_0
  clear hr0_0 hc0_0
  have HB := Aside0.mk (Below.refl w.heap.size w)
  have H : (spec_poBottom.l0 k a1 0 l0_0 (l0_0.length : Int) 0) = some r := h
  clear h
  have H' := Aside0.mk H
  clear H
  go_enter Try.func127, Try.ntmps127
  go_wp2_with (first | ((with_reducible refine gate_dst (N := 2) rfl ?_); refine box_event ?hg (N := 2) ?hd (cs := #[.slice A0_0 l0_0.length c0_0]) (t := 28) ?hr ?_; (case hd => rfl); (case hg => rfl); (case hr => first | (go_simp; done) | (go_simp; rfl)); intro gb870 hg w3 hbox hb; have n0_ := Aside0.mk (below_step (by repeat (first | (with_reducible first | exact HB.out | apply below_alloc | apply pw_below_drewN | apply below_drew1) | exact HB.out)) hb); have n1_ := Aside0.mk (hbox); have n2_ := Aside0.mk ((by rw [hg]; exact (below_size (by repeat (first | (with_reducible first | exact HB.out | apply below_alloc | apply pw_below_drewN | apply below_drew1) | exact HB.out))) : w.heap.size ≤ gb870)); have n3_ := Aside0.mk ((by rw [hg]; exact (below_size (by repeat (first | (with_reducible first | exact HB.out | apply below_alloc | apply pw_below_drewN | apply below_drew1) | exact HB.out))) : w.heap.size ≤ gb870)); clear HB; have HB := n0_; have BK870 := n1_; have GW870 := n2_; have GE870 := n3_; clear n0_ n1_ n2_ n3_; clear hb hbox hg; have hcz4_0 : w3.cell? ⟨gb870, 0, none⟩ = some (.slice A0_0 l0_0.length c0_0) := (blk_cell BK870.out 0).trans rfl; have hfz4_0 := blk_frozen BK870.out 0))
  go_loopg [5, 11] k (fun kq v5 v11 w' => ∃ (x5_1 : Int) (x11_1 : Int), v5 = .int .i64 x5_1 ∧ v11 = .int .i64 x11_1 ∧ Aside0 (spec_poBottom.l0 kq a1 x5_1 l0_0 (l0_0.length : Int) x11_1 = some r) ∧ Aside0 (kq ≤ k) ∧ Aside0 (w'.heap[gb870]? = some (.cells #[(.slice A0_0 l0_0.length c0_0)] 28 (0, 0))) ∧ Aside0 (Below w.heap.size w w'))
  case atStart => exact ⟨(0), (0), (by first | rfl | (simp; done) | (simp [*]; done)), (by first | rfl | (simp; done) | (simp [*]; done)), H', ⟨Nat.le_refl _⟩, ⟨by (with_reducible repeat (first | refine blk_drewN ?_ _ | refine blk_drew ?_ | refine blk_alloc ?_ _)); exact BK870.out⟩, ⟨by repeat (first | (with_reducible first | exact HB.out | apply below_alloc | apply pw_below_drewN | apply below_drew1 | refine below_set ?_ GE870.out) | exact HB.out)⟩⟩
  case round =>
    clear H'
    try clear c1
    try clear p2
    try clear hcz4_0
    try clear hfz4_0
    obtain ⟨x5_1, x11_1, rfl, rfl, HA, HK1, BK870, HB⟩ := hrel
    cases gk with
    | zero => exact absurd HA.out (by simp [spec_poBottom.l0])
    | succ k1 =>
      have H := HA.out
      clear HA
      simp only [spec_poBottom.l0] at H
      by_cases c5 : x11_1 < (l0_0.length : Int)
      · rw [if_pos c5] at H
        have c5b0 : decide (x11_1 < (l0_0.length : Int)) = true := decide_eq_true c5
        clear c5
        by_cases c6 : 0 ≤ x11_1
        · rw [if_pos c6] at H
          have c6b0 : decide (0 ≤ x11_1) = true := decide_eq_true c6
          clear c6
          by_cases c7 : x11_1 < (l0_0.length : Int)
          · rw [if_pos c7] at H
            have c7b0 : decide (x11_1 < (l0_0.length : Int)) = true := decide_eq_true c7
            clear c7
            replace H := Option.bind_eq_some_iff.mp H
            obtain ⟨t872, A80, H⟩ := H
            replace H : (if t872 = true then (if (Go.bits .and .i64 (rd l0_0 x11_1) a1) = 0 then (spec_poBottom.l0 k1 a1 (Go.bits .or .i64 x5_1 (shl .i64 1 x11_1)) l0_0 (l0_0.length : Int) (wrap64 (x11_1 + 1))) else (spec_poBottom.l0 k1 a1 x5_1 l0_0 (l0_0.length : Int) (wrap64 (x11_1 + 1)))) else (spec_poBottom.l0 k1 a1 x5_1 l0_0 (l0_0.length : Int) (wrap64 (x11_1 + 1)))) = some r := H
            have A8 := Aside0.mk A80
            clear A80
            by_cases c9 : t872 = true
            · subst c9
              have H1 : (if (Go.bits .and .i64 (rd l0_0 x11_1) a1) = 0 then (spec_poBottom.l0 k1 a1 (Go.bits .or .i64 x5_1 (shl .i64 1 x11_1)) l0_0 (l0_0.length : Int) (wrap64 (x11_1 + 1))) else (spec_poBottom.l0 k1 a1 x5_1 l0_0 (l0_0.length : Int) (wrap64 (x11_1 + 1)))) = some r := by rw [if_pos rfl] at H; exact H
              clear H
              have H := H1
              clear H1
              by_cases c10 : (Go.bits .and .i64 (rd l0_0 x11_1) a1) = 0
              · rw [if_pos c10] at H
                have c10b0 : ((Go.bits .and .i64 (rd l0_0 x11_1) a1) == 0) = true := beq_iff_eq.mpr c10
                have c10b1 : ((Go.bits .and .i64 (rd l0_0 x11_1) a1) != 0) = false := bne_eq_false_iff_eq.mpr c10
                clear c10
                have c11b0 := eq_true (of_decide_eq_true (by first | (with_reducible assumption) | assumption) : 0 ≤ x11_1)
                obtain ⟨ji12, hji12⟩ : ∃ j_ : Int, (shl .i64 1 x11_1) = j_ := ⟨_, rfl⟩
                replace H : (spec_poBottom.l0 k1 a1 (Go.bits .or .i64 x5_1 (ji12)) l0_0 (l0_0.length : Int) (wrap64 (x11_1 + 1))) = some r := by first | (rw [hji12] at H; exact H) | (simp only [hji12] at H ⊢; exact H)
                (try rw [hji12] at A8)
                have hji12_ : (IntKind.i64.wrap (1 * 2 ^ min x11_1.toNat 64)) = ji12 := hji12
                have hji12z : x11_1 ≤ 64 → (IntKind.i64.wrap (1 * 2 ^ x11_1.toNat)) = ji12 := shl_small hji12
                have hji12u : (IntKind.i64.wrap (2 ^ min x11_1.toNat 64)) = ji12 := by have h_ := hji12_; rw [Int.one_mul] at h_; exact h_
                have hji12v : x11_1 ≤ 64 → (IntKind.i64.wrap (2 ^ x11_1.toNat)) = ji12 := fun hle_ => by have h_ := hji12z hle_; rw [Int.one_mul] at h_; exact h_
                have hji12y : (wrap64 (1 * 2 ^ min x11_1.toNat 64)) = ji12 := (i64_w _).symm.trans hji12_
                have hji12x : x11_1 ≤ 64 → (wrap64 (1 * 2 ^ x11_1.toNat)) = ji12 := fun h_ => (i64_w _).symm.trans (hji12z h_)
                have H' := Aside0.mk H
                clear H
                have p871 : 0 ≤ (x11_1 : Int) := of_decide_eq_true (by first | (with_reducible assumption) | assumption)
                have q871 : x11_1 < (l0_0.length : Int) := of_decide_eq_true (by first | (with_reducible assumption) | assumption)
                obtain ⟨ad871, e871, hx871_0⟩ := Kd.at_int HR0_0.out x11_1 p871 q871
                cases e871
                replace hx871_0 := (HB.out.cell (World.block_lt_of_cell? w _ hx871_0)).trans hx871_0
                replace p871 := eq_true p871
                replace q871 := eq_true q871
                go_wp2_with (first | ((with_reducible refine gate_callee (f := 136) rfl ?_); refine goesL_ (some 18) rfl rfl Try.func136 (by kernel_rfl) rfl #[.int .i64 a1, .int .i64 x11_1] rfl (by (try simp only [List.map_toArray, List.map_cons, List.map_nil]); first | done | rfl | (simp only [List.length_drop, List.length_take]; rfl)) ?_; (with_reducible refine (spec_poIn.calls a1 x11_1 true _ A8.out).mono ?_); rintro e w' ⟨rfl, ⟨nd, rfl⟩⟩; refine ⟨_, rfl, ?_⟩))
                go_roundg k1
                case measure => have := HK1.out; omega
                case rel => exact ⟨(Go.bits .or .i64 x5_1 (ji12)), (wrap64 (x11_1 + 1)), (by first | rfl | (simp; done) | (simp only [← hji12] <;> (first | rfl | simp)) | (simp [*]; done)), (by first | rfl | (simp; done) | (simp [*]; done)), H', ⟨by have := HK1.out; omega⟩, ⟨by (with_reducible repeat (first | refine blk_drewN ?_ _ | refine blk_drew ?_ | refine blk_alloc ?_ _)); exact BK870.out⟩, ⟨by repeat (first | (with_reducible first | exact HB.out | apply below_alloc | apply pw_below_drewN | apply below_drew1 | refine below_set ?_ GE870.out) | exact HB.out)⟩⟩
              · rw [if_neg c10] at H
                have c10b0 : ((Go.bits .and .i64 (rd l0_0 x11_1) a1) == 0) = false := beq_eq_false_iff_ne.mpr c10
                have c10b1 : ((Go.bits .and .i64 (rd l0_0 x11_1) a1) != 0) = true := bne_iff_ne.mpr c10
                have H' := Aside0.mk H
                clear H
                have p871 : 0 ≤ (x11_1 : Int) := of_decide_eq_true (by first | (with_reducible assumption) | assumption)
                have q871 : x11_1 < (l0_0.length : Int) := of_decide_eq_true (by first | (with_reducible assumption) | assumption)
                obtain ⟨ad871, e871, hx871_0⟩ := Kd.at_int HR0_0.out x11_1 p871 q871
                cases e871
                replace hx871_0 := (HB.out.cell (World.block_lt_of_cell? w _ hx871_0)).trans hx871_0
                replace p871 := eq_true p871
                replace q871 := eq_true q871
                go_wp2_with (first | ((with_reducible refine gate_callee (f := 136) rfl ?_); refine goesL_ (some 18) rfl rfl Try.func136 (by kernel_rfl) rfl #[.int .i64 a1, .int .i64 x11_1] rfl (by (try simp only [List.map_toArray, List.map_cons, List.map_nil]); first | done | rfl | (simp only [List.length_drop, List.length_take]; rfl)) ?_; (with_reducible refine (spec_poIn.calls a1 x11_1 true _ A8.out).mono ?_); rintro e w' ⟨rfl, ⟨nd, rfl⟩⟩; refine ⟨_, rfl, ?_⟩))
                go_roundg k1
                case measure => have := HK1.out; omega
                case rel => exact ⟨(x5_1), (wrap64 (x11_1 + 1)), (by first | rfl | (simp; done) | (simp [*]; done)), (by first | rfl | (simp; done) | (simp [*]; done)), H', ⟨by have := HK1.out; omega⟩, ⟨by (with_reducible repeat (first | refine blk_drewN ?_ _ | refine blk_drew ?_ | refine blk_alloc ?_ _)); exact BK870.out⟩, ⟨by repeat (first | (with_reducible first | exact HB.out | apply below_alloc | apply pw_below_drewN | apply below_drew1 | refine below_set ?_ GE870.out) | exact HB.out)⟩⟩
            · replace c9 := Bool.eq_false_iff.mpr c9
              subst c9
              have H1 : (spec_poBottom.l0 k1 a1 x5_1 l0_0 (l0_0.length : Int) (wrap64 (x11_1 + 1))) = some r := by rw [if_neg (show ¬ (false = true) by decide)] at H; exact H
              clear H
              have H := H1
              clear H1
              have H' := Aside0.mk H
              clear H
              have p871 : 0 ≤ (x11_1 : Int) := of_decide_eq_true (by first | (with_reducible assumption) | assumption)
              have q871 : x11_1 < (l0_0.length : Int) := of_decide_eq_true (by first | (with_reducible assumption) | assumption)
              obtain ⟨ad871, e871, hx871_0⟩ := Kd.at_int HR0_0.out x11_1 p871 q871
              cases e871
              replace hx871_0 := (HB.out.cell (World.block_lt_of_cell? w _ hx871_0)).trans hx871_0
              replace p871 := eq_true p871
              replace q871 := eq_true q871
              go_wp2_with (first | ((with_reducible refine gate_callee (f := 136) rfl ?_); refine goesL_ (some 18) rfl rfl Try.func136 (by kernel_rfl) rfl #[.int .i64 a1, .int .i64 x11_1] rfl (by (try simp only [List.map_toArray, List.map_cons, List.map_nil]); first | done | rfl | (simp only [List.length_drop, List.length_take]; rfl)) ?_; (with_reducible refine (spec_poIn.calls a1 x11_1 false _ A8.out).mono ?_); rintro e w' ⟨rfl, ⟨nd, rfl⟩⟩; refine ⟨_, rfl, ?_⟩))
              go_roundg k1
              case measure => have := HK1.out; omega
              case rel => exact ⟨(x5_1), (wrap64 (x11_1 + 1)), (by first | rfl | (simp; done) | (simp [*]; done)), (by first | rfl | (simp; done) | (simp [*]; done)), H', ⟨by have := HK1.out; omega⟩, ⟨by (with_reducible repeat (first | refine blk_drewN ?_ _ | refine blk_drew ?_ | refine blk_alloc ?_ _)); exact BK870.out⟩, ⟨by repeat (first | (with_reducible first | exact HB.out | apply below_alloc | apply pw_below_drewN | apply below_drew1 | refine below_set ?_ GE870.out) | exact HB.out)⟩⟩
          · rw [if_neg c7] at H
            exact absurd H (by simp)
        · rw [if_neg c6] at H
          exact absurd H (by simp)
      · rw [if_neg c5] at H
        have c5b0 : decide (x11_1 < (l0_0.length : Int)) = false := decide_eq_false c5
        clear c5
        obtain rfl := Option.some.inj H
        go_wp2
        go_ret
        exact ⟨by first | rfl | (simp [errW_none, errW_some] <;> rfl) | (simp [*, errW_none, errW_some] <;> rfl), by repeat (first | (with_reducible first | exact HB.out | apply below_alloc | apply pw_below_drewN | apply below_drew1 | refine below_set ?_ GE870.out) | exact HB.out)⟩
end Go.Proofs.Ytpdgiinedbdamaa.L
end
