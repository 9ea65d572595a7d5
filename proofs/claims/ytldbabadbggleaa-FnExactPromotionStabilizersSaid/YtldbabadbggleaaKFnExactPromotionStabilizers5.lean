/- Laws about the given program: the law FnExactPromotionStabilizers answers true for every input that its row lets in; no condition is added to the given statement. Contracts of the Go functions that it reaches, and the plain proof over lists. -/
import Derived.Test.YtldbabadbggleaaWFnExactPromotionStabilizers0
import Derived.Test.YtldbabadbggleaaKFnExactPromotionStabilizers0
import Derived.Test.YtldbabadbggleaaKFnExactPromotionStabilizers1
import Derived.Test.YtldbabadbggleaaKFnExactPromotionStabilizers2
import Derived.Test.YtldbabadbggleaaKFnExactPromotionStabilizers3
import Derived.Test.YtldbabadbggleaaKFnExactPromotionStabilizers4
section
namespace Go.Proofs.Ytldbabadbggleaa.L
open Go.RowKit Go.Proofs.YtldbabadbggleaaW.PrintWords Go.Proofs.YtldbabadbggleaaW.PrintLast Go.Proofs.YtldbabadbggleaaW.PrintMore
attribute [local go_sem] max2_int min2_int max_two min_two max_three min_three max_four min_four
set_option linter.unusedVariables false
set_option linter.unusedSimpArgs false
def impl_Poset_close.l0 : Nat → Int → List Int → Int → Int → List Int → Option (Int)
  | 0, _, _, _, _, _ => none
  | k + 1, x5, x10, x11, x12, x283000 => if x12 < x11 then (if 0 ≤ x12 then (if x12 < (x10.length : Int) then (if 0 ≤ (rd x10 x12) then (if (rd x10 x12) < (x283000.length : Int) then (impl_Poset_close.l0 k (Go.bits .or .i64 x5 (rd x283000 (rd x10 x12))) x10 x11 (wrap64 (x12 + 1)) x283000) else (none)) else (none)) else (none)) else (none)) else (some x5)
def impl_Poset_close.f (k : Nat) (l0_0 : List Int) (a1 : Int) : Option (Int) := (impl_items.f k a1).bind fun t283 => (impl_Poset_close.l0 k a1 t283 (t283.length : Int) 0 l0_0)
theorem impl_Poset_close.mono_l : ∀ k, (∀ y0 y1 y2 y3 y4, LeO (impl_Poset_close.l0 k y0 y1 y2 y3 y4) (impl_Poset_close.l0 (k + 1) y0 y1 y2 y3 y4))
  | 0 => fun _ _ _ _ _ r h => by simp [impl_Poset_close.l0] at h
  | k + 1 => by
    have ih0 := impl_Poset_close.mono_l k
    · intro y0 y1 y2 y3 y4
      unfold impl_Poset_close.l0
      repeat' first
      | (with_reducible exact ih0 _ _ _ _ _)
      | (with_reducible exact impl_items.mono _ _)
      | (with_reducible exact LeO.refl _)
      | (with_reducible exact LeO.none _)
      | (with_reducible refine LeO.ite ?_ ?_)
      | (with_reducible refine LeO.bind ?_ (fun _ => ?_))
      | exact ih0 _ _ _ _ _
      | exact impl_items.mono _ _
      | exact LeO.none _
      | refine LeO.ite ?_ ?_
      | refine LeO.bind ?_ (fun _ => ?_)
theorem impl_Poset_close.mono : ∀ a0 a1 k, LeO (impl_Poset_close.f k a0 a1) (impl_Poset_close.f (k + 1) a0 a1) := by
  intro a0 a1 k
  have ih0 := impl_Poset_close.mono_l k
  unfold impl_Poset_close.f
  repeat' first
      | (with_reducible exact ih0 _ _ _ _ _)
      | (with_reducible exact impl_items.mono _ _)
      | (with_reducible exact LeO.refl _)
      | (with_reducible exact LeO.none _)
      | (with_reducible refine LeO.ite ?_ ?_)
      | (with_reducible refine LeO.bind ?_ (fun _ => ?_))
      | exact ih0 _ _ _ _ _
      | exact impl_items.mono _ _
      | exact LeO.none _
      | refine LeO.ite ?_ ?_
      | refine LeO.bind ?_ (fun _ => ?_)
set_option maxHeartbeats 8000000 in
set_option maxRecDepth 100000 in
theorem impl_Poset_close.calls (k : Nat) (A0_0 : Option Addr) (c0_0 : Nat) (l0_0 : List Int) (a1 : Int) (r : Int) (w : World) (hr0_0 : Kd.C (Kd.int .i64) w A0_0 l0_0.length l0_0) (hc0_0 : l0_0.length ≤ c0_0) (h : impl_Poset_close.f k l0_0 a1 = some r) :
    Calls Try.prog 86 #[.agg #[.slice A0_0 l0_0.length c0_0], .int .i64 a1] w fun e w' => e = .returned (.int .i64 r) ∧ Below w.heap.size w w' := by
  have hu29 := Try.underlying29
  have HR0_0 := Aside0.mk hr0_0
  have HC0_0 := Aside0.mk hc0_0
  clear hr0_0 hc0_0
  have HB := Aside0.mk (Below.refl w.heap.size w)
  have H : ((impl_items.f k a1).bind fun t283 => (impl_Poset_close.l0 k a1 t283 (t283.length : Int) 0 l0_0)) = some r := h
  clear h
  replace H := Option.bind_eq_some_iff.mp H
  obtain ⟨t283, A30, H⟩ := H
  replace H : (impl_Poset_close.l0 k a1 t283 (t283.length : Int) 0 l0_0) = some r := H
  have A3 := Aside0.mk A30
  clear A30
  have H' := Aside0.mk H
  clear H
  go_enter Try.func86, Try.ntmps86
  go_wp2_with (first | ((with_reducible refine gate_dst (N := 2) rfl ?_); refine box_event ?hg (N := 2) ?hd (cs := #[.slice A0_0 l0_0.length c0_0]) (t := 29) ?hr ?_; (case hd => rfl); (case hg => rfl); (case hr => first | (go_simp; done) | (go_simp; rfl)); intro gb282 hg w4 hbox hb; have n0_ := Aside0.mk (below_step (by repeat (first | (with_reducible first | exact HB.out | apply below_alloc | apply pw_below_drewN | apply below_drew1) | exact HB.out)) hb); have n1_ := Aside0.mk (hbox); have n2_ := Aside0.mk ((by rw [hg]; exact (below_size (by repeat (first | (with_reducible first | exact HB.out | apply below_alloc | apply pw_below_drewN | apply below_drew1) | exact HB.out))) : w.heap.size ≤ gb282)); have n3_ := Aside0.mk ((by rw [hg]; exact (below_size (by repeat (first | (with_reducible first | exact HB.out | apply below_alloc | apply pw_below_drewN | apply below_drew1) | exact HB.out))) : w.heap.size ≤ gb282)); clear HB; have HB := n0_; have BK282 := n1_; have GW282 := n2_; have GE282 := n3_; clear n0_ n1_ n2_ n3_; clear hb hbox hg) | ((with_reducible refine gate_callee (f := 54) rfl ?_); refine goesL_ (some 10) rfl rfl Try.func54 (by kernel_rfl) rfl #[.int .i64 a1] rfl (by (try simp only [List.map_toArray, List.map_cons, List.map_nil]); first | done | rfl | (simp only [List.length_drop, List.length_take]; rfl)) ?_; (with_reducible refine (impl_items.calls k a1 t283 _ A3.out).mono ?_); rintro e w5 ⟨v284, rfl, ho0, hb⟩; refine ⟨_, rfl, ?_⟩; have n0_ := Aside0.mk (Kd.R_lower ho0 (below_size (by repeat (first | (with_reducible first | exact HB.out | apply below_alloc | apply pw_below_drewN | apply below_drew1 | refine below_set ?_ GE282.out) | exact HB.out)))); have n1_ := Aside0.mk (blk_below (g := gb282) (o := .cells #[.slice A0_0 l0_0.length c0_0] 29 (0, 0)) (by (with_reducible repeat (first | refine blk_drewN ?_ _ | refine blk_drew ?_ | refine blk_alloc ?_ _)); exact BK282.out) hb); have n2_ := Aside0.mk (below_step (by repeat (first | (with_reducible first | exact HB.out | apply below_alloc | apply pw_below_drewN | apply below_drew1 | refine below_set ?_ GE282.out) | exact HB.out)) hb); clear BK282; clear HB; have HO285 := n0_; have BK282 := n1_; have HB := n2_; clear n0_ n1_ n2_; (try clear hb); (try clear hb2); (try clear hk); (try clear hi); (try clear ho0); obtain ⟨Ao6, co6, eo6⟩ := Kd.R_slice HO285.out; subst eo6))
  go_loopg [5, 12] k (fun kq v5 v12 w' => ∃ (x5_1 : Int) (x12_1 : Int), v5 = .int .i64 x5_1 ∧ v12 = .int .i64 x12_1 ∧ Aside0 (impl_Poset_close.l0 kq x5_1 t283 (t283.length : Int) x12_1 l0_0 = some r) ∧ Aside0 (kq ≤ k) ∧ Aside0 (Kd.R (Kd.int .i64) 3 w' w.heap.size (fun _ => True) (.slice Ao6 t283.length co6) t283) ∧ Aside0 (w'.heap[gb282]? = some (.cells #[(.slice A0_0 l0_0.length c0_0)] 29 (0, 0))) ∧ Aside0 (Below w.heap.size w w'))
  case atStart => exact ⟨(a1), (0), (by first | rfl | (simp; done) | (simp [*]; done)), (by first | rfl | (simp; done) | (simp [*]; done)), H', ⟨Nat.le_refl _⟩, ⟨by (with_reducible repeat (first | apply Kd.R_alloc | apply Kd.R_drewN | apply Kd.R_drew)); exact HO285.out⟩, ⟨by (with_reducible repeat (first | refine blk_drewN ?_ _ | refine blk_drew ?_ | refine blk_alloc ?_ _)); exact BK282.out⟩, ⟨by repeat (first | (with_reducible first | exact HB.out | apply below_alloc | apply pw_below_drewN | apply below_drew1 | refine below_set ?_ GE282.out) | exact HB.out)⟩⟩
  case round =>
    clear H'
    try clear p2
    try clear c5
    obtain ⟨x5_1, x12_1, rfl, rfl, HA, HK1, HO_10, BK282, HB⟩ := hrel
    cases gk with
    | zero => exact absurd HA.out (by simp [impl_Poset_close.l0])
    | succ k1 =>
      have H := HA.out
      clear HA
      simp only [impl_Poset_close.l0] at H
      by_cases c7 : x12_1 < (t283.length : Int)
      · rw [if_pos c7] at H
        have c7b0 : decide (x12_1 < (t283.length : Int)) = true := decide_eq_true c7
        clear c7
        by_cases c8 : 0 ≤ x12_1
        · rw [if_pos c8] at H
          have c8b0 : decide (0 ≤ x12_1) = true := decide_eq_true c8
          clear c8
          by_cases c9 : x12_1 < (t283.length : Int)
          · rw [if_pos c9] at H
            have c9b0 : decide (x12_1 < (t283.length : Int)) = true := decide_eq_true c9
            clear c9
            by_cases c10 : 0 ≤ (rd t283 x12_1)
            · rw [if_pos c10] at H
              have c10b0 : decide (0 ≤ (rd t283 x12_1)) = true := decide_eq_true c10
              clear c10
              by_cases c11 : (rd t283 x12_1) < (l0_0.length : Int)
              · rw [if_pos c11] at H
                have c11b0 : decide ((rd t283 x12_1) < (l0_0.length : Int)) = true := decide_eq_true c11
                clear c11
                have H' := Aside0.mk H
                clear H
                have p286 : 0 ≤ (x12_1 : Int) := of_decide_eq_true (by first | (with_reducible assumption) | assumption)
                have q286 : x12_1 < (t283.length : Int) := of_decide_eq_true (by first | (with_reducible assumption) | assumption)
                obtain ⟨ad286, e286, hx286_0⟩ := Kd.at_int (Kd.R_reads' HO_10.out).2.2 x12_1 p286 q286
                cases e286
                replace p286 := eq_true p286
                replace q286 := eq_true q286
                have hcz12_0 : wr.cell? ⟨gb282, 0, none⟩ = some (.slice A0_0 l0_0.length c0_0) := (blk_cell BK282.out 0).trans rfl
                have hfz12_0 := blk_frozen BK282.out 0
                have p287 : 0 ≤ ((rd t283 x12_1) : Int) := of_decide_eq_true (by first | (with_reducible assumption) | assumption)
                have q287 : (rd t283 x12_1) < (l0_0.length : Int) := of_decide_eq_true (by first | (with_reducible assumption) | assumption)
                obtain ⟨ad287, e287, hx287_0⟩ := Kd.at_int HR0_0.out (rd t283 x12_1) p287 q287
                cases e287
                replace hx287_0 := (HB.out.cell (World.block_lt_of_cell? w _ hx287_0)).trans hx287_0
                replace p287 := eq_true p287
                replace q287 := eq_true q287
                go_wp2
                go_roundg k1
                case measure => have := HK1.out; omega
                case rel => exact ⟨(Go.bits .or .i64 x5_1 (rd l0_0 (rd t283 x12_1))), (wrap64 (x12_1 + 1)), (by first | rfl | (simp; done) | (simp [*]; done)), (by first | rfl | (simp; done) | (simp [*]; done)), H', ⟨by have := HK1.out; omega⟩, ⟨by (with_reducible repeat (first | apply Kd.R_alloc | apply Kd.R_drewN | apply Kd.R_drew)); exact HO_10.out⟩, ⟨by (with_reducible repeat (first | refine blk_drewN ?_ _ | refine blk_drew ?_ | refine blk_alloc ?_ _)); exact BK282.out⟩, ⟨by repeat (first | (with_reducible first | exact HB.out | apply below_alloc | apply pw_below_drewN | apply below_drew1 | refine below_set ?_ GE282.out) | exact HB.out)⟩⟩
              · rw [if_neg c11] at H
                exact absurd H (by simp)
            · rw [if_neg c10] at H
              exact absurd H (by simp)
          · rw [if_neg c9] at H
            exact absurd H (by simp)
        · rw [if_neg c8] at H
          exact absurd H (by simp)
      · rw [if_neg c7] at H
        have c7b0 : decide (x12_1 < (t283.length : Int)) = false := decide_eq_false c7
        clear c7
        obtain rfl := Option.some.inj H
        go_wp2
        go_ret
        exact ⟨by first | rfl | (simp [errW_none, errW_some] <;> rfl) | (simp [*, errW_none, errW_some] <;> rfl), by repeat (first | (with_reducible first | exact HB.out | apply below_alloc | apply pw_below_drewN | apply below_drew1 | refine below_set ?_ GE282.out) | exact HB.out)⟩
mutual
def impl_Poset_ways.l0 : Nat → List Int → Int → List Int → Option (List Int)
  | 0, _, _, _ => none
  | k + 1, x3, x4, x289000 => if x4 ≥ 0 then ((impl_Poset_close.f k x289000 x4).bind fun t296 => (if t296 = x4 then ((impl_Poset_all.f x289000).bind fun t297 => ((impl_items.f k (Go.bits .andNot .i64 t297 x4)).bind fun t298 => (impl_Poset_ways.l1 k x3 x4 t298 (t298.length : Int) 0 x289000))) else (impl_Poset_ways.l0 k x3 (wrap64 (x4 - 1)) x289000))) else (some x3)
def impl_Poset_ways.l1 : Nat → List Int → Int → List Int → Int → Int → List Int → Option (List Int)
  | 0, _, _, _, _, _, _ => none
  | k + 1, x3, x4, x31, x32, x33, x289000 => if x33 < x32 then (if 0 ≤ x33 then (if x33 < (x31.length : Int) then (if 0 ≤ (rd x31 x33) then (if (rd x31 x33) < (x289000.length : Int) then (if (Go.bits .andNot .i64 (rd x289000 (rd x31 x33)) x4) = 0 then (if 0 ≤ x4 then (if x4 < (x3.length : Int) then (if 0 ≤ (Go.bits .or .i64 x4 (shl .i64 1 (rd x31 x33))) then (if (Go.bits .or .i64 x4 (shl .i64 1 (rd x31 x33))) < (x3.length : Int) then (impl_Poset_ways.l1 k (x3.set (x4 : Int).toNat (wrap64 ((rd x3 x4) + (rd x3 (Go.bits .or .i64 x4 (shl .i64 1 (rd x31 x33))))))) x4 x31 x32 (wrap64 (x33 + 1)) x289000) else (none)) else (none)) else (none)) else (none)) else (impl_Poset_ways.l1 k x3 x4 x31 x32 (wrap64 (x33 + 1)) x289000)) else (none)) else (none)) else (none)) else (none)) else (impl_Poset_ways.l0 k x3 (wrap64 (x4 - 1)) x289000)
end
def impl_Poset_ways.f (k : Nat) (l0_0 : List Int) : Option (List Int) := (impl_Poset_all.f l0_0).bind fun t289 => (if 0 ≤ (wrap64 (t289 + 1)) then (if (wrap64 (t289 + 1) : Int).toNat ≤ 35184372088832 then ((some (List.replicate (wrap64 (t289 + 1) : Int).toNat 0 : List Int)).bind fun y290 => ((impl_Poset_all.f l0_0).bind fun t293 => (if 0 ≤ t293 then (if t293 < (y290.length : Int) then ((impl_Poset_all.f l0_0).bind fun t295 => (impl_Poset_ways.l0 k (y290.set (t293 : Int).toNat 1) (wrap64 (t295 - 1)) l0_0)) else (none)) else (none)))) else (none)) else (none))
theorem impl_Poset_ways.mono_l : ∀ k, (∀ y0 y1 y2, LeO (impl_Poset_ways.l0 k y0 y1 y2) (impl_Poset_ways.l0 (k + 1) y0 y1 y2)) ∧ (∀ y0 y1 y2 y3 y4 y5, LeO (impl_Poset_ways.l1 k y0 y1 y2 y3 y4 y5) (impl_Poset_ways.l1 (k + 1) y0 y1 y2 y3 y4 y5))
  | 0 => ⟨fun _ _ _ r h => by simp [impl_Poset_ways.l0] at h, fun _ _ _ _ _ _ r h => by simp [impl_Poset_ways.l1] at h⟩
  | k + 1 => by
    obtain ⟨ih0, ih1⟩ := impl_Poset_ways.mono_l k
    refine ⟨?_, ?_⟩
    · intro y0 y1 y2
      unfold impl_Poset_ways.l0
      repeat' first
      | (with_reducible exact ih0 _ _ _)
      | (with_reducible exact ih1 _ _ _ _ _ _)
      | (with_reducible exact impl_Poset_close.mono _ _ _)
      | (with_reducible exact impl_items.mono _ _)
      | (with_reducible exact LeO.refl _)
      | (with_reducible exact LeO.none _)
      | (with_reducible refine LeO.ite ?_ ?_)
      | (with_reducible refine LeO.bind ?_ (fun _ => ?_))
      | exact ih0 _ _ _
      | exact ih1 _ _ _ _ _ _
      | exact impl_Poset_close.mono _ _ _
      | exact impl_items.mono _ _
      | exact LeO.none _
      | refine LeO.ite ?_ ?_
      | refine LeO.bind ?_ (fun _ => ?_)
    · intro y0 y1 y2 y3 y4 y5
      unfold impl_Poset_ways.l1
      repeat' first
      | (with_reducible exact ih0 _ _ _)
      | (with_reducible exact ih1 _ _ _ _ _ _)
      | (with_reducible exact impl_Poset_close.mono _ _ _)
      | (with_reducible exact impl_items.mono _ _)
      | (with_reducible exact LeO.refl _)
      | (with_reducible exact LeO.none _)
      | (with_reducible refine LeO.ite ?_ ?_)
      | (with_reducible refine LeO.bind ?_ (fun _ => ?_))
      | exact ih0 _ _ _
      | exact ih1 _ _ _ _ _ _
      | exact impl_Poset_close.mono _ _ _
      | exact impl_items.mono _ _
      | exact LeO.none _
      | refine LeO.ite ?_ ?_
      | refine LeO.bind ?_ (fun _ => ?_)
theorem impl_Poset_ways.mono : ∀ a0 k, LeO (impl_Poset_ways.f k a0) (impl_Poset_ways.f (k + 1) a0) := by
  intro a0 k
  obtain ⟨ih0, ih1⟩ := impl_Poset_ways.mono_l k
  unfold impl_Poset_ways.f
  repeat' first
      | (with_reducible exact ih0 _ _ _)
      | (with_reducible exact ih1 _ _ _ _ _ _)
      | (with_reducible exact impl_Poset_close.mono _ _ _)
      | (with_reducible exact impl_items.mono _ _)
      | (with_reducible exact LeO.refl _)
      | (with_reducible exact LeO.none _)
      | (with_reducible refine LeO.ite ?_ ?_)
      | (with_reducible refine LeO.bind ?_ (fun _ => ?_))
      | exact ih0 _ _ _
      | exact ih1 _ _ _ _ _ _
      | exact impl_Poset_close.mono _ _ _
      | exact impl_items.mono _ _
      | exact LeO.none _
      | refine LeO.ite ?_ ?_
      | refine LeO.bind ?_ (fun _ => ?_)
def impl_Poset_ways.T11 : Bool × List (List Nat × List Nat) := (true, [([], []), ([], []), ([0, 1], [0, 1]), ([2], [2]), ([], []), ([], []), ([], []), ([6], [6]), ([5, 7], [5, 7]), ([4, 8], [4, 8]), ([9], [9]), ([3, 10], [3, 10]), ([0, 1, 0, 1, 2, 3, 4, 5, 6, 7, 8, 9, 10, 11], [0, 1]), ([12, 11, 0, 1, 2, 3, 4, 5, 6, 7, 8, 9, 10, 11], [11, 12])])
def impl_Poset_ways.B11 : List Nat := [0, 0, 3, 7, 0, 0, 0, 64, 224, 496, 1008, 2047, 4095, 8191]
theorem impl_Poset_ways.tab11 : rtab .any (opsOf Try.f71 11) = impl_Poset_ways.T11 := by kernel_rfl
theorem impl_Poset_ways.bits11 : waitsOk impl_Poset_ways.T11.2 impl_Poset_ways.B11 = true := by kernel_rfl
set_option maxHeartbeats 8000000 in
set_option maxRecDepth 100000 in
theorem impl_Poset_ways.calls (k : Nat) (A0_0 : Option Addr) (c0_0 : Nat) (l0_0 : List Int) (r : List Int) (w : World) (hr0_0 : Kd.C (Kd.int .i64) w A0_0 l0_0.length l0_0) (hc0_0 : l0_0.length ≤ c0_0) (h : impl_Poset_ways.f k l0_0 = some r) :
    Calls Try.prog 71 #[.agg #[.slice A0_0 l0_0.length c0_0]] w fun e w' => ∃ v0_ : Value, e = .returned (v0_) ∧ Kd.R (Kd.int .i64) 3 w' w.heap.size (fun _ => True) v0_ r ∧ Below w.heap.size w w' := by
  have hu29 := Try.underlying29
  have HR0_0 := Aside0.mk hr0_0
  have HC0_0 := Aside0.mk hc0_0
  clear hr0_0 hc0_0
  have HB := Aside0.mk (Below.refl w.heap.size w)
  have H : ((impl_Poset_all.f l0_0).bind fun t289 => (if 0 ≤ (wrap64 (t289 + 1)) then (if (wrap64 (t289 + 1) : Int).toNat ≤ 35184372088832 then ((some (List.replicate (wrap64 (t289 + 1) : Int).toNat 0 : List Int)).bind fun y290 => ((impl_Poset_all.f l0_0).bind fun t293 => (if 0 ≤ t293 then (if t293 < (y290.length : Int) then ((impl_Poset_all.f l0_0).bind fun t295 => (impl_Poset_ways.l0 k (y290.set (t293 : Int).toNat 1) (wrap64 (t295 - 1)) l0_0)) else (none)) else (none)))) else (none)) else (none))) = some r := h
  clear h
  replace H := Option.bind_eq_some_iff.mp H
  obtain ⟨t289, A20, H⟩ := H
  replace H : (if 0 ≤ (wrap64 (t289 + 1)) then (if (wrap64 (t289 + 1) : Int).toNat ≤ 35184372088832 then ((some (List.replicate (wrap64 (t289 + 1) : Int).toNat 0 : List Int)).bind fun y290 => ((impl_Poset_all.f l0_0).bind fun t293 => (if 0 ≤ t293 then (if t293 < (y290.length : Int) then ((impl_Poset_all.f l0_0).bind fun t295 => (impl_Poset_ways.l0 k (y290.set (t293 : Int).toNat 1) (wrap64 (t295 - 1)) l0_0)) else (none)) else (none)))) else (none)) else (none)) = some r := H
  have A2 := Aside0.mk A20
  clear A20
  obtain ⟨ji3, hji3⟩ : ∃ j_ : Int, (wrap64 (t289 + 1)) = j_ := ⟨_, rfl⟩
  replace H : (if 0 ≤ (ji3) then (if (ji3 : Int).toNat ≤ 35184372088832 then ((some (List.replicate (ji3 : Int).toNat 0 : List Int)).bind fun y290 => ((impl_Poset_all.f l0_0).bind fun t293 => (if 0 ≤ t293 then (if t293 < (y290.length : Int) then ((impl_Poset_all.f l0_0).bind fun t295 => (impl_Poset_ways.l0 k (y290.set (t293 : Int).toNat 1) (wrap64 (t295 - 1)) l0_0)) else (none)) else (none)))) else (none)) else (none)) = some r := by first | (rw [hji3] at H; exact H) | (simp only [hji3] at H ⊢; exact H)
  (try rw [hji3] at A2)
  have hji3w : (IntKind.i64.wrap (t289 + 1)) = ji3 := (i64_w _).trans hji3
  by_cases c4 : 0 ≤ (ji3)
  · rw [if_pos c4] at H
    have c4b0 := eq_true c4
    have c4b1 : decide (0 ≤ (ji3)) = true := decide_eq_true c4
    clear c4
    by_cases c5 : (ji3 : Int).toNat ≤ 35184372088832
    · rw [if_pos c5] at H
      have c5b0 := eq_true c5
      have c5b1 : decide ((ji3 : Int).toNat ≤ 35184372088832) = true := decide_eq_true c5
      clear c5
      obtain ⟨y290, hy290⟩ : ∃ y_ : List Int, y_ = (List.replicate (ji3 : Int).toNat 0) := ⟨_, rfl⟩
      replace H : ((impl_Poset_all.f l0_0).bind fun t293 => (if 0 ≤ t293 then (if t293 < (y290.length : Int) then ((impl_Poset_all.f l0_0).bind fun t295 => (impl_Poset_ways.l0 k (y290.set (t293 : Int).toNat 1) (wrap64 (t295 - 1)) l0_0)) else (none)) else (none))) = some r := by first | (rw [hy290]; with_reducible exact H) | (have H2_ := (Option.bind_some _ _).symm.trans H; rw [hy290]; with_reducible exact H2_) | (have H2_ := (Option.bind_some _ _).symm.trans H; with_reducible exact H2_) | with_reducible exact H | (rw [hy290]; exact H) | exact H
      have Ny290 := Aside0.mk hy290
      clear hy290
      replace H := Option.bind_eq_some_iff.mp H
      obtain ⟨t293, A60, H⟩ := H
      replace H : (if 0 ≤ t293 then (if t293 < (y290.length : Int) then ((impl_Poset_all.f l0_0).bind fun t295 => (impl_Poset_ways.l0 k (y290.set (t293 : Int).toNat 1) (wrap64 (t295 - 1)) l0_0)) else (none)) else (none)) = some r := H
      have A6 := Aside0.mk A60
      clear A60
      by_cases c7 : 0 ≤ t293
      · rw [if_pos c7] at H
        have c7b0 : decide (0 ≤ t293) = true := decide_eq_true c7
        clear c7
        by_cases c8 : t293 < (y290.length : Int)
        · rw [if_pos c8] at H
          have c8b0 : decide (t293 < (y290.length : Int)) = true := decide_eq_true c8
          clear c8
          obtain ⟨y294, hy294⟩ : ∃ y_ : List Int, y_ = (y290.set (t293 : Int).toNat 1) := ⟨_, rfl⟩
          replace H : ((impl_Poset_all.f l0_0).bind fun t295 => (impl_Poset_ways.l0 k y294 (wrap64 (t295 - 1)) l0_0)) = some r := by first | (rw [hy294]; with_reducible exact H) | (have H2_ := (Option.bind_some _ _).symm.trans H; rw [hy294]; with_reducible exact H2_) | (have H2_ := (Option.bind_some _ _).symm.trans H; with_reducible exact H2_) | with_reducible exact H | (rw [hy294]; exact H) | exact H
          have Ny294 := Aside0.mk hy294
          clear hy294
          replace H := Option.bind_eq_some_iff.mp H
          obtain ⟨t295, A100, H⟩ := H
          replace H : (impl_Poset_ways.l0 k y294 (wrap64 (t295 - 1)) l0_0) = some r := H
          have A10 := Aside0.mk A100
          clear A100
          have H' := Aside0.mk H
          clear H
          go_enter Try.func71, Try.ntmps71
          go_wp2_with (first | ((with_reducible refine gate_dst (N := 1) rfl ?_); refine box_event ?hg (N := 1) ?hd (cs := #[.slice A0_0 l0_0.length c0_0]) (t := 29) ?hr ?_; (case hd => rfl); (case hg => rfl); (case hr => first | (go_simp; done) | (go_simp; rfl)); intro gb288 hg w11 hbox hb; have n0_ := Aside0.mk (below_step (by repeat (first | (with_reducible first | exact HB.out | apply below_alloc | apply pw_below_drewN | apply below_drew1) | exact HB.out)) hb); have n1_ := Aside0.mk (hbox); have n2_ := Aside0.mk ((by rw [hg]; exact (below_size (by repeat (first | (with_reducible first | exact HB.out | apply below_alloc | apply pw_below_drewN | apply below_drew1) | exact HB.out))) : w.heap.size ≤ gb288)); have n3_ := Aside0.mk ((by rw [hg]; exact (below_size (by repeat (first | (with_reducible first | exact HB.out | apply below_alloc | apply pw_below_drewN | apply below_drew1) | exact HB.out))) : w.heap.size ≤ gb288)); clear HB; have HB := n0_; have BK288 := n1_; have GW288 := n2_; have GE288 := n3_; clear n0_ n1_ n2_ n3_; clear hb hbox hg; have hcz12_0 : w11.cell? ⟨gb288, 0, none⟩ = some (.slice A0_0 l0_0.length c0_0) := (blk_cell BK288.out 0).trans rfl; have hfz12_0 := blk_frozen BK288.out 0) | ((with_reducible refine gate_callee (f := 73) rfl ?_); refine goesL_ (some 8) rfl rfl Try.func73 (by kernel_rfl) rfl #[.agg #[.slice A0_0 l0_0.length c0_0]] rfl (by (try simp only [List.map_toArray, List.map_cons, List.map_nil]); first | done | rfl | (simp only [List.length_drop, List.length_take]; rfl)) ?_; (with_reducible refine (impl_Poset_all.calls _ _ l0_0 t289 _ ?side1 ?side2 A2.out).mono ?_); (case side1 => repeat (first | exact (Kd.C_below HR0_0.out HB.out) | (with_reducible refine Kd.C_alloc ?_ _) | (with_reducible refine Kd.C_drewN ?_ _) | (with_reducible refine Kd.C_drew ?_))); (case side2 => exact HC0_0.out); rintro e w13 ⟨rfl, hb⟩; refine ⟨_, rfl, ?_⟩; have n0_ := Aside0.mk (blk_below (g := gb288) (o := .cells #[.slice A0_0 l0_0.length c0_0] 29 (0, 0)) (by (with_reducible repeat (first | refine blk_drewN ?_ _ | refine blk_drew ?_ | refine blk_alloc ?_ _)); exact BK288.out) hb); have n1_ := Aside0.mk (below_step (by repeat (first | (with_reducible first | exact HB.out | apply below_alloc | apply pw_below_drewN | apply below_drew1 | refine below_set ?_ GE288.out) | exact HB.out)) hb); clear BK288; clear HB; have BK288 := n0_; have HB := n1_; clear n0_ n1_; (try clear hb); (try clear hb2); (try clear hk); (try clear hi)) | ((with_reducible refine gate_dst (N := 10) rfl ?_); refine Kd.R_make (Kd.int .i64) _ 3 rfl (N := 10) rfl 22 _ _ rfl ji3 rfl rfl Try.underlying22 (.int .i64 0) 8 info3 rfl (by decide) (by omega) 0 (ok := fun _ => True) (okp := fun _ => True) rfl (fun _ hk => hk) trivial (of_decide_eq_true (by first | (with_reducible assumption) | assumption)) (Nat.le_trans (Nat.mul_le_mul_right _ (of_decide_eq_true (by first | (with_reducible assumption) | assumption) : ji3.toNat ≤ 35184372088832)) (by omega)) (Below.refl _ _) (Nat.le_refl _) ?_; intro v291 w14 ho15 hb hg_ hnew_; clear hg_ hnew_; (first | rw [← Ny290.out] at ho15 | (simp only [Int.reduceToNat] at ho15; rw [← Ny290.out] at ho15)); have n0_ := Aside0.mk (Kd.R_lower ho15 (below_size (by repeat (first | (with_reducible first | exact HB.out | apply below_alloc | apply pw_below_drewN | apply below_drew1 | refine below_set ?_ GE288.out) | exact HB.out)))); have n1_ := Aside0.mk (blk_below (g := gb288) (o := .cells #[.slice A0_0 l0_0.length c0_0] 29 (0, 0)) (by (with_reducible repeat (first | refine blk_drewN ?_ _ | refine blk_drew ?_ | refine blk_alloc ?_ _)); exact BK288.out) hb); have n2_ := Aside0.mk (below_step (by repeat (first | (with_reducible first | exact HB.out | apply below_alloc | apply pw_below_drewN | apply below_drew1 | refine below_set ?_ GE288.out) | exact HB.out)) hb); clear BK288; clear HB; have HO292 := n0_; have BK288 := n1_; have HB := n2_; clear n0_ n1_ n2_; clear hb ho15; have hcz16_0 : w14.cell? ⟨gb288, 0, none⟩ = some (.slice A0_0 l0_0.length c0_0) := (blk_cell BK288.out 0).trans rfl; have hfz16_0 := blk_frozen BK288.out 0) | ((with_reducible refine gate_callee (f := 73) rfl ?_); refine goesL_ (some 13) rfl rfl Try.func73 (by kernel_rfl) rfl #[.agg #[.slice A0_0 l0_0.length c0_0]] rfl (by (try simp only [List.map_toArray, List.map_cons, List.map_nil]); first | done | rfl | (simp only [List.length_drop, List.length_take]; rfl)) ?_; (with_reducible refine (impl_Poset_all.calls _ _ l0_0 t293 _ ?side1 ?side2 A6.out).mono ?_); (case side1 => repeat (first | exact (Kd.C_below HR0_0.out HB.out) | (with_reducible refine Kd.C_alloc ?_ _) | (with_reducible refine Kd.C_drewN ?_ _) | (with_reducible refine Kd.C_drew ?_))); (case side2 => exact HC0_0.out); rintro e w17 ⟨rfl, hb⟩; refine ⟨_, rfl, ?_⟩; have n0_ := Aside0.mk (Kd.R_below (by (with_reducible repeat (first | apply Kd.R_alloc | apply Kd.R_drewN | apply Kd.R_drew)); exact HO292.out) hb); have n1_ := Aside0.mk (blk_below (g := gb288) (o := .cells #[.slice A0_0 l0_0.length c0_0] 29 (0, 0)) (by (with_reducible repeat (first | refine blk_drewN ?_ _ | refine blk_drew ?_ | refine blk_alloc ?_ _)); exact BK288.out) hb); have n2_ := Aside0.mk (below_step (by repeat (first | (with_reducible first | exact HB.out | apply below_alloc | apply pw_below_drewN | apply below_drew1 | refine below_set ?_ GE288.out) | exact HB.out)) hb); clear HO292; clear BK288; clear HB; have HO292 := n0_; have BK288 := n1_; have HB := n2_; clear n0_ n1_ n2_; (try clear hb); (try clear hb2); (try clear hk); (try clear hi); have p9 : 0 ≤ (t293 : Int) := of_decide_eq_true (by first | (with_reducible assumption) | assumption); have q9 : (t293 : Int) < ((y290.length : Int) : Int) := of_decide_eq_true (by first | (with_reducible assumption) | assumption); obtain ⟨go9, co9, eo9, gb9, gl9, cl9, HG9⟩ := Kd.R_form HO292.out (by omega); (first | cases eo9 | (injection eo9 with ea_ en_ ec_; (first | subst ea_ | (injection ea_ with ea_; subst ea_)); subst ec_; clear en_)); have GB9 := Aside0.mk gb9; have GG9 := Aside0.mk HG9; clear gb9 gl9 HG9; obtain ⟨hx9_0, hf9_0⟩ := Kd.R_celln 0 HO292.out (t293 : Int) p9 q9; replace p9 := eq_true p9; replace q9 := eq_true q9; obtain ⟨hy18_, hz18_⟩ := Kd.R_celln 0 HO292.out (t293 : Int) (of_decide_eq_true (by first | (with_reducible assumption) | assumption)) (of_decide_eq_true (by first | (with_reducible assumption) | assumption)); have HP18 := Kd.R_putg HO292.out (t293 : Int) 1) | ((with_reducible refine gate_store (t := 3) (p := 14) rfl ?_); refine store_event (t := 3) (p := 14) (v := ?vo_w19) (w1 := (w17.setCell ⟨go9, (t293 : Int).toNat, none⟩ (.int .i64 1))) ?hg ?ho ?hn ?hr ?_; (case ho => rfl); (case hg => rfl); (case hn => rfl); (case hr => first | (go_simp; done) | (go_simp; rfl)); intro w19 hw; have hg : w17.grownBy w19 (some go9) := (by rw [hw]; exact HP18.2); have hp_ : Kd.R (Kd.int .i64) 3 w19 w.heap.size (fun _ => True) (.slice (some ⟨go9, 0, none⟩) y290.length co9) y294 := (by rw [hw, Ny294.out]; exact HP18.1); clear HP18; have n0_ := Aside0.mk (blk_grown (g := gb288) (o := .cells #[.slice A0_0 l0_0.length c0_0] 29 (0, 0)) (by (with_reducible repeat (first | refine blk_drewN ?_ _ | refine blk_drew ?_ | refine blk_alloc ?_ _)); exact BK288.out) hg (Kd.R_ne HO292.out BK288.out (by decide))); have n1_ := Aside0.mk (hp_); have n2_ := Aside0.mk ((by rw [hw]; exact below_set (HB.out) GB9.out : Below w.heap.size w w19)); clear BK288; clear HO292; clear HB; have BK288 := n0_; have HO292 := n1_; have HB := n2_; clear n0_ n1_ n2_; clear hg hw hp_; have hcz20_0 : w19.cell? ⟨gb288, 0, none⟩ = some (.slice A0_0 l0_0.length c0_0) := (blk_cell BK288.out 0).trans rfl; have hfz20_0 := blk_frozen BK288.out 0) | ((with_reducible refine gate_callee (f := 73) rfl ?_); refine goesL_ (some 16) rfl rfl Try.func73 (by kernel_rfl) rfl #[.agg #[.slice A0_0 l0_0.length c0_0]] rfl (by (try simp only [List.map_toArray, List.map_cons, List.map_nil]); first | done | rfl | (simp only [List.length_drop, List.length_take]; rfl)) ?_; (with_reducible refine (impl_Poset_all.calls _ _ l0_0 t295 _ ?side1 ?side2 A10.out).mono ?_); (case side1 => repeat (first | exact (Kd.C_below HR0_0.out HB.out) | (with_reducible refine Kd.C_alloc ?_ _) | (with_reducible refine Kd.C_drewN ?_ _) | (with_reducible refine Kd.C_drew ?_))); (case side2 => exact HC0_0.out); rintro e w21 ⟨rfl, hb⟩; refine ⟨_, rfl, ?_⟩; have n0_ := Aside0.mk (Kd.R_below (by (with_reducible repeat (first | apply Kd.R_alloc | apply Kd.R_drewN | apply Kd.R_drew)); exact HO292.out) hb); have n1_ := Aside0.mk (blk_below (g := gb288) (o := .cells #[.slice A0_0 l0_0.length c0_0] 29 (0, 0)) (by (with_reducible repeat (first | refine blk_drewN ?_ _ | refine blk_drew ?_ | refine blk_alloc ?_ _)); exact BK288.out) hb); have n2_ := Aside0.mk (below_step (by repeat (first | (with_reducible first | exact HB.out | apply below_alloc | apply pw_below_drewN | apply below_drew1 | refine below_set ?_ GE288.out) | exact HB.out)) hb); clear HO292; clear BK288; clear HB; have HO292 := n0_; have BK288 := n1_; have HB := n2_; clear n0_ n1_ n2_; (try clear hb); (try clear hb2); (try clear hk); (try clear hi)))
          go_loopg [4] k (fun kq v4 w' => ∃ (x3_1 : List Int) (x4_1 : Int), v4 = .int .i64 x4_1 ∧ Aside0 (impl_Poset_ways.l0 kq x3_1 x4_1 l0_0 = some r) ∧ Aside0 (kq ≤ k) ∧ Aside0 (Kd.R (Kd.int .i64) 3 w' w.heap.size (fun _ => True) (.slice (some ⟨go9, 0, none⟩) y290.length co9) x3_1) ∧ Aside0 (w'.heap[gb288]? = some (.cells #[(.slice A0_0 l0_0.length c0_0)] 29 (0, 0))) ∧ Aside0 (Below w.heap.size w w'))
          case atStart => exact ⟨(y294), (wrap64 (t295 - 1)), (by first | rfl | (simp; done) | (simp [*]; done)), H', ⟨Nat.le_refl _⟩, ⟨by (with_reducible repeat (first | apply Kd.R_alloc | apply Kd.R_drewN | apply Kd.R_drew)); exact HO292.out⟩, ⟨by (with_reducible repeat (first | refine blk_drewN ?_ _ | refine blk_drew ?_ | refine blk_alloc ?_ _)); exact BK288.out⟩, ⟨by repeat (first | (with_reducible first | exact HB.out | apply below_alloc | apply pw_below_drewN | apply below_drew1 | refine below_set ?_ GE288.out) | exact HB.out)⟩⟩
          case round =>
            clear H'
            try clear p2
            try clear c4
            try clear c4b0
            try clear c4b1
            try clear c5
            try clear c5b0
            try clear c5b1
            try clear p6
            try clear c7
            try clear c7b0
            try clear c8
            try clear c8b0
            try clear p9
            try clear q9
            try clear hx9
            try clear hf9
            try clear hcz12_0
            try clear hcz16_0
            try clear hcz20_0
            try clear hfz12_0
            try clear hfz16_0
            try clear hfz20_0
            try clear hx9_0
            try clear p9
            try clear q9
            obtain ⟨x3_1, x4_1, rfl, HA, HK1, HO_3, BK288, HB⟩ := hrel
            have hl3_1 := (Kd.R_reads' HO_3.out).1
            rw [hl3_1] at HO_3
            (try simp only [hl3_1])
            (try simp only [hl3_1] at BK288)
            cases gk with
            | zero => exact absurd HA.out (by simp [impl_Poset_ways.l0])
            | succ k1 =>
              have H := HA.out
              clear HA
              simp only [impl_Poset_ways.l0] at H
              by_cases c22 : x4_1 ≥ 0
              · rw [if_pos c22] at H
                have c22b0 : decide (0 ≤ x4_1) = true := decide_eq_true c22
                clear c22
                replace H := Option.bind_eq_some_iff.mp H
                obtain ⟨t296, A230, H⟩ := H
                replace H : (if t296 = x4_1 then ((impl_Poset_all.f l0_0).bind fun t297 => ((impl_items.f k1 (Go.bits .andNot .i64 t297 x4_1)).bind fun t298 => (impl_Poset_ways.l1 k1 x3_1 x4_1 t298 (t298.length : Int) 0 l0_0))) else (impl_Poset_ways.l0 k1 x3_1 (wrap64 (x4_1 - 1)) l0_0)) = some r := H
                have A23 := Aside0.mk A230
                clear A230
                by_cases c24 : t296 = x4_1
                · rw [if_pos c24] at H
                  have c24b0 : (t296 == x4_1) = true := beq_iff_eq.mpr c24
                  have c24b1 : (t296 != x4_1) = false := bne_eq_false_iff_eq.mpr c24
                  clear c24
                  replace H := Option.bind_eq_some_iff.mp H
                  obtain ⟨t297, A250, H⟩ := H
                  replace H : ((impl_items.f k1 (Go.bits .andNot .i64 t297 x4_1)).bind fun t298 => (impl_Poset_ways.l1 k1 x3_1 x4_1 t298 (t298.length : Int) 0 l0_0)) = some r := H
                  have A25 := Aside0.mk A250
                  clear A250
                  replace H := Option.bind_eq_some_iff.mp H
                  obtain ⟨t298, A260, H⟩ := H
                  replace H : (impl_Poset_ways.l1 k1 x3_1 x4_1 t298 (t298.length : Int) 0 l0_0) = some r := H
                  have A26 := Aside0.mk A260
                  clear A260
                  have H' := Aside0.mk H
                  clear H
                  have hcz27_0 : wr.cell? ⟨gb288, 0, none⟩ = some (.slice A0_0 l0_0.length c0_0) := (blk_cell BK288.out 0).trans rfl
                  have hfz27_0 := blk_frozen BK288.out 0
                  go_wp2_with (first | ((with_reducible refine gate_callee (f := 86) rfl ?_); refine goesL_ (some 24) rfl rfl Try.func86 (by kernel_rfl) rfl #[.agg #[.slice A0_0 l0_0.length c0_0], .int .i64 x4_1] rfl (by (try simp only [List.map_toArray, List.map_cons, List.map_nil]); first | done | rfl | (simp only [List.length_drop, List.length_take]; rfl)) ?_; (with_reducible refine (impl_Poset_close.calls k1 _ _ l0_0 x4_1 t296 _ ?side1 ?side2 A23.out).mono ?_); (case side1 => repeat (first | exact (Kd.C_below HR0_0.out HB.out) | (with_reducible refine Kd.C_alloc ?_ _) | (with_reducible refine Kd.C_drewN ?_ _) | (with_reducible refine Kd.C_drew ?_))); (case side2 => exact HC0_0.out); rintro e w28 ⟨rfl, hb⟩; refine ⟨_, rfl, ?_⟩; have n0_ := Aside0.mk (Kd.R_below (by (with_reducible repeat (first | apply Kd.R_alloc | apply Kd.R_drewN | apply Kd.R_drew)); exact HO_3.out) hb); have n1_ := Aside0.mk (blk_below (g := gb288) (o := .cells #[.slice A0_0 l0_0.length c0_0] 29 (0, 0)) (by (with_reducible repeat (first | refine blk_drewN ?_ _ | refine blk_drew ?_ | refine blk_alloc ?_ _)); exact BK288.out) hb); have n2_ := Aside0.mk (below_step (by repeat (first | (with_reducible first | exact HB.out | apply below_alloc | apply pw_below_drewN | apply below_drew1 | refine below_set ?_ GE288.out) | exact HB.out)) hb); clear HO_3; clear BK288; clear HB; have HO_3 := n0_; have BK288 := n1_; have HB := n2_; clear n0_ n1_ n2_; (try clear hb); (try clear hb2); (try clear hk); (try clear hi); have hcz29_0 : w28.cell? ⟨gb288, 0, none⟩ = some (.slice A0_0 l0_0.length c0_0) := (blk_cell BK288.out 0).trans rfl; have hfz29_0 := blk_frozen BK288.out 0) | ((with_reducible refine gate_callee (f := 73) rfl ?_); refine goesL_ (some 28) rfl rfl Try.func73 (by kernel_rfl) rfl #[.agg #[.slice A0_0 l0_0.length c0_0]] rfl (by (try simp only [List.map_toArray, List.map_cons, List.map_nil]); first | done | rfl | (simp only [List.length_drop, List.length_take]; rfl)) ?_; (with_reducible refine (impl_Poset_all.calls _ _ l0_0 t297 _ ?side1 ?side2 A25.out).mono ?_); (case side1 => repeat (first | exact (Kd.C_below HR0_0.out HB.out) | (with_reducible refine Kd.C_alloc ?_ _) | (with_reducible refine Kd.C_drewN ?_ _) | (with_reducible refine Kd.C_drew ?_))); (case side2 => exact HC0_0.out); rintro e w30 ⟨rfl, hb⟩; refine ⟨_, rfl, ?_⟩; have n0_ := Aside0.mk (Kd.R_below (by (with_reducible repeat (first | apply Kd.R_alloc | apply Kd.R_drewN | apply Kd.R_drew)); exact HO_3.out) hb); have n1_ := Aside0.mk (blk_below (g := gb288) (o := .cells #[.slice A0_0 l0_0.length c0_0] 29 (0, 0)) (by (with_reducible repeat (first | refine blk_drewN ?_ _ | refine blk_drew ?_ | refine blk_alloc ?_ _)); exact BK288.out) hb); have n2_ := Aside0.mk (below_step (by repeat (first | (with_reducible first | exact HB.out | apply below_alloc | apply pw_below_drewN | apply below_drew1 | refine below_set ?_ GE288.out) | exact HB.out)) hb); clear HO_3; clear BK288; clear HB; have HO_3 := n0_; have BK288 := n1_; have HB := n2_; clear n0_ n1_ n2_; (try clear hb); (try clear hb2); (try clear hk); (try clear hi)) | ((with_reducible refine gate_callee (f := 54) rfl ?_); refine goesL_ (some 31) rfl rfl Try.func54 (by kernel_rfl) rfl #[.int .i64 (Go.bits .andNot .i64 t297 x4_1)] rfl (by (try simp only [List.map_toArray, List.map_cons, List.map_nil]); first | done | rfl | (simp only [List.length_drop, List.length_take]; rfl)) ?_; (with_reducible refine (impl_items.calls k1 (Go.bits .andNot .i64 t297 x4_1) t298 _ A26.out).mono ?_); rintro e w31 ⟨v299, rfl, ho0, hb⟩; refine ⟨_, rfl, ?_⟩; have n0_ := Aside0.mk (Kd.R_elder' (by (with_reducible repeat (first | apply Kd.R_alloc | apply Kd.R_drewN | apply Kd.R_drew)); exact HO_3.out) (Kd.R_base ho0) hb); have n1_ := Aside0.mk (Kd.R_lower (Kd.R_new' ho0 (Kd.R_lt (by (with_reducible repeat (first | apply Kd.R_alloc | apply Kd.R_drewN | apply Kd.R_drew)); exact HO_3.out))) (below_size (by repeat (first | (with_reducible first | exact HB.out | apply below_alloc | apply pw_below_drewN | apply below_drew1 | refine below_set ?_ GE288.out) | exact HB.out)))); have n2_ := Aside0.mk (blk_below (g := gb288) (o := .cells #[.slice A0_0 l0_0.length c0_0] 29 (0, 0)) (by (with_reducible repeat (first | refine blk_drewN ?_ _ | refine blk_drew ?_ | refine blk_alloc ?_ _)); exact BK288.out) hb); have n3_ := Aside0.mk (below_step (by repeat (first | (with_reducible first | exact HB.out | apply below_alloc | apply pw_below_drewN | apply below_drew1 | refine below_set ?_ GE288.out) | exact HB.out)) hb); clear HO_3; clear BK288; clear HB; have HO_3 := n0_; have HO300 := n1_; have BK288 := n2_; have HB := n3_; clear n0_ n1_ n2_ n3_; (try clear hb); (try clear hb2); (try clear hk); (try clear hi); (try clear ho0); obtain ⟨Ao32, co32, eo32⟩ := Kd.R_slice HO300.out; subst eo32))
                  go_loopg [33] k1 (fun kq v33 w' => ∃ (x3_2 : List Int) (x33_2 : Int), v33 = .int .i64 x33_2 ∧ Aside0 (impl_Poset_ways.l1 kq x3_2 x4_1 t298 (t298.length : Int) x33_2 l0_0 = some r) ∧ Aside0 (kq ≤ k1) ∧ Aside0 (Kd.R (Kd.int .i64) 3 w' w.heap.size (fun k_ => some k_ ≠ ((.slice Ao32 t298.length co32) : Value).ownBlock) (.slice (some ⟨go9, 0, none⟩) x3_1.length co9) x3_2) ∧ Aside0 (Kd.R (Kd.int .i64) 3 w' w.heap.size (fun k_ => some k_ ≠ ((.slice (some ⟨go9, 0, none⟩) x3_1.length co9) : Value).ownBlock) (.slice Ao32 t298.length co32) t298) ∧ Aside0 (w'.heap[gb288]? = some (.cells #[(.slice A0_0 l0_0.length c0_0)] 29 (0, 0))) ∧ Aside0 (Below w.heap.size w w'))
                  case atStart => exact ⟨(x3_1), (0), (by first | rfl | (simp; done) | (simp [*]; done)), H', ⟨Nat.le_refl _⟩, ⟨by (try simp only [hl3_1]); (with_reducible repeat (first | apply Kd.R_alloc | apply Kd.R_drewN | apply Kd.R_drew)); exact Kd.R_mono HO_3.out (fun _ hk => hk.2)⟩, ⟨by (try simp only [hl3_1]); (with_reducible repeat (first | apply Kd.R_alloc | apply Kd.R_drewN | apply Kd.R_drew)); exact Kd.R_mono HO300.out (fun _ hk => hk.2)⟩, ⟨by (try simp only [hl3_1]); (with_reducible repeat (first | refine blk_drewN ?_ _ | refine blk_drew ?_ | refine blk_alloc ?_ _)); exact BK288.out⟩, ⟨by repeat (first | (with_reducible first | exact HB.out | apply below_alloc | apply pw_below_drewN | apply below_drew1 | refine below_set ?_ GE288.out) | exact HB.out)⟩⟩
                  case round =>
                    clear H'
                    try clear c2
                    try clear p2
                    try clear c4
                    try clear c4b0
                    try clear c4b1
                    try clear c5
                    try clear c5b0
                    try clear c5b1
                    try clear p6
                    try clear c7
                    try clear c7b0
                    try clear c8
                    try clear c8b0
                    try clear p9
                    try clear q9
                    try clear hx9
                    try clear hf9
                    try clear c22
                    try clear c22b0
                    try clear c24
                    try clear c24b0
                    try clear c24b1
                    try clear hcz12_0
                    try clear hcz16_0
                    try clear hcz20_0
                    try clear hcz27_0
                    try clear hcz29_0
                    try clear hfz12_0
                    try clear hfz16_0
                    try clear hfz20_0
                    try clear hfz27_0
                    try clear hfz29_0
                    try clear hx9_0
                    try clear p2
                    try clear p6
                    try clear p9
                    try clear q9
                    obtain ⟨x3_2, x33_2, rfl, HA, HK2, HO_3, HO_31, BK288, HB⟩ := hrel
                    have hl3_2 := (Kd.R_reads' HO_3.out).1
                    rw [hl3_2] at HO_3
                    (try simp only [hl3_2])
                    (try simp only [hl3_2] at BK288)
                    (try simp only [hl3_2] at HO_31)
                    cases gk with
                    | zero => exact absurd HA.out (by simp [impl_Poset_ways.l1])
                    | succ k2 =>
                      have H := HA.out
                      clear HA
                      simp only [impl_Poset_ways.l1] at H
                      by_cases c33 : x33_2 < (t298.length : Int)
                      · rw [if_pos c33] at H
                        have c33b0 : decide (x33_2 < (t298.length : Int)) = true := decide_eq_true c33
                        clear c33
                        by_cases c34 : 0 ≤ x33_2
                        · rw [if_pos c34] at H
                          have c34b0 : decide (0 ≤ x33_2) = true := decide_eq_true c34
                          clear c34
                          by_cases c35 : x33_2 < (t298.length : Int)
                          · rw [if_pos c35] at H
                            have c35b0 : decide (x33_2 < (t298.length : Int)) = true := decide_eq_true c35
                            clear c35
                            by_cases c36 : 0 ≤ (rd t298 x33_2)
                            · rw [if_pos c36] at H
                              have c36b0 : decide (0 ≤ (rd t298 x33_2)) = true := decide_eq_true c36
                              clear c36
                              by_cases c37 : (rd t298 x33_2) < (l0_0.length : Int)
                              · rw [if_pos c37] at H
                                have c37b0 : decide ((rd t298 x33_2) < (l0_0.length : Int)) = true := decide_eq_true c37
                                clear c37
                                by_cases c38 : (Go.bits .andNot .i64 (rd l0_0 (rd t298 x33_2)) x4_1) = 0
                                · rw [if_pos c38] at H
                                  have c38b0 : ((Go.bits .andNot .i64 (rd l0_0 (rd t298 x33_2)) x4_1) == 0) = true := beq_iff_eq.mpr c38
                                  have c38b1 : ((Go.bits .andNot .i64 (rd l0_0 (rd t298 x33_2)) x4_1) != 0) = false := bne_eq_false_iff_eq.mpr c38
                                  clear c38
                                  by_cases c39 : 0 ≤ x4_1
                                  · rw [if_pos c39] at H
                                    have c39b0 : decide (0 ≤ x4_1) = true := decide_eq_true c39
                                    clear c39
                                    by_cases c40 : x4_1 < (x3_2.length : Int)
                                    · rw [if_pos c40] at H
                                      have c40b0 : decide (x4_1 < (x3_2.length : Int)) = true := decide_eq_true c40
                                      clear c40
                                      have c41b0 := eq_true (of_decide_eq_true (by first | (with_reducible assumption) | assumption) : 0 ≤ (rd t298 x33_2))
                                      obtain ⟨ji42, hji42⟩ : ∃ j_ : Int, (shl .i64 1 (rd t298 x33_2)) = j_ := ⟨_, rfl⟩
                                      replace H : (if 0 ≤ (Go.bits .or .i64 x4_1 (ji42)) then (if (Go.bits .or .i64 x4_1 (ji42)) < (x3_2.length : Int) then (impl_Poset_ways.l1 k2 (x3_2.set (x4_1 : Int).toNat (wrap64 ((rd x3_2 x4_1) + (rd x3_2 (Go.bits .or .i64 x4_1 (ji42)))))) x4_1 t298 (t298.length : Int) (wrap64 (x33_2 + 1)) l0_0) else (none)) else (none)) = some r := by first | (rw [hji42] at H; exact H) | (simp only [hji42] at H ⊢; exact H)
                                      have hji42_ : (IntKind.i64.wrap (1 * 2 ^ min (rd t298 x33_2).toNat 64)) = ji42 := hji42
                                      have hji42z : (rd t298 x33_2) ≤ 64 → (IntKind.i64.wrap (1 * 2 ^ (rd t298 x33_2).toNat)) = ji42 := shl_small hji42
                                      have hji42u : (IntKind.i64.wrap (2 ^ min (rd t298 x33_2).toNat 64)) = ji42 := by have h_ := hji42_; rw [Int.one_mul] at h_; exact h_
                                      have hji42v : (rd t298 x33_2) ≤ 64 → (IntKind.i64.wrap (2 ^ (rd t298 x33_2).toNat)) = ji42 := fun hle_ => by have h_ := hji42z hle_; rw [Int.one_mul] at h_; exact h_
                                      have hji42y : (wrap64 (1 * 2 ^ min (rd t298 x33_2).toNat 64)) = ji42 := (i64_w _).symm.trans hji42_
                                      have hji42x : (rd t298 x33_2) ≤ 64 → (wrap64 (1 * 2 ^ (rd t298 x33_2).toNat)) = ji42 := fun h_ => (i64_w _).symm.trans (hji42z h_)
                                      by_cases c43 : 0 ≤ (Go.bits .or .i64 x4_1 (ji42))
                                      · rw [if_pos c43] at H
                                        have c43b0 : decide (0 ≤ (Go.bits .or .i64 x4_1 (ji42))) = true := decide_eq_true c43
                                        clear c43
                                        by_cases c44 : (Go.bits .or .i64 x4_1 (ji42)) < (x3_2.length : Int)
                                        · rw [if_pos c44] at H
                                          have c44b0 : decide ((Go.bits .or .i64 x4_1 (ji42)) < (x3_2.length : Int)) = true := decide_eq_true c44
                                          clear c44
                                          obtain ⟨y305, hy305⟩ : ∃ y_ : List Int, y_ = (x3_2.set (x4_1 : Int).toNat (wrap64 ((rd x3_2 x4_1) + (rd x3_2 (Go.bits .or .i64 x4_1 (ji42)))))) := ⟨_, rfl⟩
                                          replace H : (impl_Poset_ways.l1 k2 y305 x4_1 t298 (t298.length : Int) (wrap64 (x33_2 + 1)) l0_0) = some r := by first | (rw [hy305]; with_reducible exact H) | (have H2_ := (Option.bind_some _ _).symm.trans H; rw [hy305]; with_reducible exact H2_) | (have H2_ := (Option.bind_some _ _).symm.trans H; with_reducible exact H2_) | with_reducible exact H | (rw [hy305]; exact H) | exact H
                                          have Ny305 := Aside0.mk hy305
                                          clear hy305
                                          have H' := Aside0.mk H
                                          clear H
                                          have p301 : 0 ≤ (x33_2 : Int) := of_decide_eq_true (by first | (with_reducible assumption) | assumption)
                                          have q301 : x33_2 < (t298.length : Int) := of_decide_eq_true (by first | (with_reducible assumption) | assumption)
                                          obtain ⟨ad301, e301, hx301_0⟩ := Kd.at_int (Kd.R_reads' HO_31.out).2.2 x33_2 p301 q301
                                          cases e301
                                          replace p301 := eq_true p301
                                          replace q301 := eq_true q301
                                          have hcz46_0 : wr.cell? ⟨gb288, 0, none⟩ = some (.slice A0_0 l0_0.length c0_0) := (blk_cell BK288.out 0).trans rfl
                                          have hfz46_0 := blk_frozen BK288.out 0
                                          have p302 : 0 ≤ ((rd t298 x33_2) : Int) := of_decide_eq_true (by first | (with_reducible assumption) | assumption)
                                          have q302 : (rd t298 x33_2) < (l0_0.length : Int) := of_decide_eq_true (by first | (with_reducible assumption) | assumption)
                                          obtain ⟨ad302, e302, hx302_0⟩ := Kd.at_int HR0_0.out (rd t298 x33_2) p302 q302
                                          cases e302
                                          replace hx302_0 := (HB.out.cell (World.block_lt_of_cell? w _ hx302_0)).trans hx302_0
                                          replace p302 := eq_true p302
                                          replace q302 := eq_true q302
                                          try go_wp2
                                          have n0_ := Aside0.mk (Kd.R_drew HO_3.out)
                                          have n1_ := Aside0.mk (Kd.R_drew HO_31.out)
                                          have n2_ := Aside0.mk (blk_drew BK288.out)
                                          have n3_ := Aside0.mk (below_drew1 HB.out)
                                          clear HO_3
                                          clear HO_31
                                          clear BK288
                                          clear HB
                                          have HO_3 := n0_
                                          have HO_31 := n1_
                                          have BK288 := n2_
                                          have HB := n3_
                                          clear n0_ n1_ n2_ n3_
                                          have p303 : 0 ≤ (x4_1 : Int) := of_decide_eq_true (by first | (with_reducible assumption) | assumption)
                                          have q303 : x4_1 < (x3_2.length : Int) := of_decide_eq_true (by first | (with_reducible assumption) | assumption)
                                          obtain ⟨ad303, e303, hx303_0⟩ := Kd.at_int (Kd.R_reads' HO_3.out).2.2 x4_1 p303 q303
                                          obtain rfl : (⟨go9, 0, none⟩ : Addr) = ad303 := (by injection e303)
                                          (first | simp only [add_plain] at hx303_0 | simp only [add_at] at hx303_0 | simp only [Addr.add, Nat.zero_add] at hx303_0 | skip)
                                          replace p303 := eq_true p303
                                          replace q303 := eq_true q303
                                          have p304 : 0 ≤ ((Go.bits .or .i64 x4_1 (ji42)) : Int) := of_decide_eq_true (by first | (with_reducible assumption) | assumption)
                                          have q304 : (Go.bits .or .i64 x4_1 (ji42)) < (x3_2.length : Int) := of_decide_eq_true (by first | (with_reducible assumption) | assumption)
                                          obtain ⟨ad304, e304, hx304_0⟩ := Kd.at_int (Kd.R_reads' HO_3.out).2.2 (Go.bits .or .i64 x4_1 (ji42)) p304 q304
                                          obtain rfl : (⟨go9, 0, none⟩ : Addr) = ad304 := (by injection e304)
                                          (first | simp only [add_plain] at hx304_0 | simp only [add_at] at hx304_0 | simp only [Addr.add, Nat.zero_add] at hx304_0 | skip)
                                          replace p304 := eq_true p304
                                          replace q304 := eq_true q304
                                          have p45 : 0 ≤ (x4_1 : Int) := of_decide_eq_true (by first | (with_reducible assumption) | assumption)
                                          have q45 : (x4_1 : Int) < ((x3_2.length : Int) : Int) := of_decide_eq_true (by first | (with_reducible assumption) | assumption)
                                          obtain ⟨hx45_0, hf45_0⟩ := Kd.R_celln 0 HO_3.out (x4_1 : Int) p45 q45
                                          replace p45 := eq_true p45
                                          replace q45 := eq_true q45
                                          have HP48 := Kd.R_putn HO_3.out (x4_1 : Int) (wrap64 ((rd x3_2 x4_1) + (rd x3_2 (Go.bits .or .i64 x4_1 (ji42)))))
                                          rw [← Ny305.out] at HP48
                                          have HQ48 := Aside0.mk HP48
                                          clear HP48
                                          refine start_ (n := 14) (S := fun w' => w'.cell? ⟨go9, (x4_1).toNat, none⟩ = some (.int .i64 (rd x3_2 x4_1)) ∧ w'.cell? ⟨go9, ((Go.bits .or .i64 x4_1 (ji42))).toNat, none⟩ = some (.int .i64 (rd x3_2 (Go.bits .or .i64 x4_1 (ji42))))) (ds := [13]) #[false, false, false, false, false, false, false, false, false, false, false, false, false, false] (by kernel_rfl) rfl rfl ⟨hx303_0, hx304_0⟩ (fun hHeld => ?_); refine with_tabW impl_Poset_ways.tab11 impl_Poset_ways.bits11 (fun HT_ HW_ => ?_)
                                          generalize wr.drew = w47 at HO_3 HO_31 BK288 HB HQ48 hf45_0 hx303_0 hx304_0 hx45_0 hHeld ⊢
                                          refine pure_ (i := 0) (N := some 45) (v := ?_) (a' := ?_) #[true, false, false, false, false, false, false, false, false, false, false, false, false, false] rfl rfl (any_of HT_.out (by kernel_rfl)) (fun _ _ _ h => h) (Or.inl ⟨by rfl, ?_⟩) ?_ ?_
                                          rotate_left
                                          · intro w'
                                            go_simp
                                            with_reducible rfl
                                          rotate_left
                                          · simp only [Act.put, List.setIfInBounds_toArray, List.set_cons_zero, List.set_cons_succ, i64_w, i32_w]
                                            rfl
                                          refine pure_ (i := 1) (N := some 46) (v := ?_) (a' := ?_) #[true, true, false, false, false, false, false, false, false, false, false, false, false, false] rfl rfl (any_of HT_.out (by kernel_rfl)) (fun _ _ _ h => h) (Or.inl ⟨by rfl, ?_⟩) ?_ ?_
                                          rotate_left
                                          · intro w'
                                            go_simp
                                            with_reducible rfl
                                          rotate_left
                                          · simp only [Act.put, List.setIfInBounds_toArray, List.set_cons_zero, List.set_cons_succ, i64_w, i32_w]
                                            rfl
                                          refine pure_ (i := 2) (N := some 47) (v := ?_) (a' := ?_) #[true, true, true, false, false, false, false, false, false, false, false, false, false, false] rfl rfl (any_of HT_.out (by kernel_rfl)) (fun _ _ _ h => h) (Or.inl ⟨by rfl, ?_⟩) ?_ ?_
                                          rotate_left
                                          · intro w'
                                            go_simp
                                            with_reducible rfl
                                          rotate_left
                                          · simp only [Act.put, List.setIfInBounds_toArray, List.set_cons_zero, List.set_cons_succ, i64_w, i32_w]
                                            rfl
                                          refine pure_ (i := 4) (N := some 49) (v := ?_) (a' := ?_) #[true, true, true, false, true, false, false, false, false, false, false, false, false, false] rfl rfl (any_of HT_.out (by kernel_rfl)) (fun _ _ _ h => h) (Or.inl ⟨by rfl, ?_⟩) ?_ ?_
                                          rotate_left
                                          · intro w'
                                            go_simp
                                            with_reducible rfl
                                          rotate_left
                                          · simp only [Act.put, List.setIfInBounds_toArray, List.set_cons_zero, List.set_cons_succ, i64_w, i32_w]
                                            rfl
                                          refine pure_ (i := 5) (N := some 50) (v := ?_) (a' := ?_) #[true, true, true, false, true, true, false, false, false, false, false, false, false, false] rfl rfl (any_of HT_.out (by kernel_rfl)) (fun _ _ _ h => h) (Or.inl ⟨by rfl, ?_⟩) ?_ ?_
                                          rotate_left
                                          · intro w'
                                            go_simp
                                            with_reducible rfl
                                          rotate_left
                                          · simp only [Act.put, List.setIfInBounds_toArray, List.set_cons_zero, List.set_cons_succ, i64_w, i32_w]
                                            rfl
                                          refine pure_ (i := 6) (N := some 51) (v := ?_) (a' := ?_) #[true, true, true, false, true, true, true, false, false, false, false, false, false, false] rfl rfl (any_of HT_.out (by kernel_rfl)) (fun _ _ _ h => h) (Or.inl ⟨by rfl, ?_⟩) ?_ ?_
                                          rotate_left
                                          · intro w'
                                            go_simp
                                            with_reducible rfl
                                          rotate_left
                                          · simp only [Act.put, List.setIfInBounds_toArray, List.set_cons_zero, List.set_cons_succ, i64_w, i32_w]
                                            rfl
                                          refine pure_ (i := 7) (N := some 52) (v := ?_) (a' := ?_) #[true, true, true, false, true, true, true, true, false, false, false, false, false, false] rfl rfl (any_of HT_.out (by kernel_rfl)) (fun _ _ _ h => h) (Or.inl ⟨by rfl, ?_⟩) ?_ ?_
                                          rotate_left
                                          · intro w'
                                            go_simp
                                            with_reducible rfl
                                          rotate_left
                                          · simp only [Act.put, List.setIfInBounds_toArray, List.set_cons_zero, List.set_cons_succ, i64_w, i32_w]
                                            rfl
                                          refine pure_ (i := 8) (N := some 53) (v := ?_) (a' := ?_) #[true, true, true, false, true, true, true, true, true, false, false, false, false, false] rfl rfl (any_of HT_.out (by kernel_rfl)) (fun _ _ _ h => h) (Or.inl ⟨by rfl, ?_⟩) ?_ ?_
                                          rotate_left
                                          · intro w'
                                            go_simp
                                            with_reducible rfl
                                          rotate_left
                                          · simp only [Act.put, List.setIfInBounds_toArray, List.set_cons_zero, List.set_cons_succ, i64_w, i32_w]
                                            rfl
                                          refine pure_ (i := 9) (N := some 54) (v := ?_) (a' := ?_) #[true, true, true, false, true, true, true, true, true, true, false, false, false, false] rfl rfl (any_of HT_.out (by kernel_rfl)) (fun _ _ _ h => h) (Or.inl ⟨by rfl, ?_⟩) ?_ ?_
                                          rotate_left
                                          · intro w'
                                            go_simp
                                            with_reducible rfl
                                          rotate_left
                                          · simp only [Act.put, List.setIfInBounds_toArray, List.set_cons_zero, List.set_cons_succ, i64_w, i32_w]
                                            rfl
                                          refine take_ (i := 3) (N := some 48) (v := ?_) (a' := ?_) #[true, true, true, true, true, true, true, true, true, true, false, false, false, false] rfl rfl (take_ofW HT_.out HW_.out (by kernel_rfl)) (fun _ _ _ h => h) (Or.inl ⟨by rfl, ?_⟩) hHeld ?_ ?_
                                          rotate_left
                                          · rintro w' ⟨s0, s1⟩
                                            go_simp
                                            with_reducible rfl
                                          rotate_left
                                          · simp only [Act.put, List.setIfInBounds_toArray, List.set_cons_zero, List.set_cons_succ, i64_w, i32_w]
                                            rfl
                                          refine take_ (i := 10) (N := some 55) (v := ?_) (a' := ?_) #[true, true, true, true, true, true, true, true, true, true, true, false, false, false] rfl rfl (take_ofW HT_.out HW_.out (by kernel_rfl)) (fun _ _ _ h => h) (Or.inl ⟨by rfl, ?_⟩) hHeld ?_ ?_
                                          rotate_left
                                          · rintro w' ⟨s0, s1⟩
                                            go_simp
                                            with_reducible rfl
                                          rotate_left
                                          · simp only [Act.put, List.setIfInBounds_toArray, List.set_cons_zero, List.set_cons_succ, i64_w, i32_w]
                                            rfl
                                          refine pure_ (i := 11) (N := some 56) (v := ?_) (a' := ?_) #[true, true, true, true, true, true, true, true, true, true, true, true, false, false] rfl rfl (any_of HT_.out (by kernel_rfl)) (fun _ _ _ h => h) (Or.inl ⟨by rfl, ?_⟩) ?_ ?_
                                          rotate_left
                                          · intro w'
                                            go_simp
                                            with_reducible rfl
                                          rotate_left
                                          · simp only [Act.put, List.setIfInBounds_toArray, List.set_cons_zero, List.set_cons_succ, i64_w, i32_w]
                                            rfl
                                          refine pure_ (i := 12) (N := some 57) (v := ?_) (a' := ?_) #[true, true, true, true, true, true, true, true, true, true, true, true, true, false] rfl rfl (any_of HT_.out (by kernel_rfl)) (fun _ _ _ h => h) (Or.inl ⟨by rfl, ?_⟩) ?_ ?_
                                          rotate_left
                                          · intro w'
                                            go_simp
                                            with_reducible rfl
                                          rotate_left
                                          · simp only [Act.put, List.setIfInBounds_toArray, List.set_cons_zero, List.set_cons_succ, i64_w, i32_w]
                                            rfl
                                          refine last_ (i := 13) (N := none) #[true, true, true, true, true, true, true, true, true, true, true, true, true, true] rfl rfl (one_of HT_.out (by kernel_rfl)) (by decide) (fun K hK => ?_)
                                          refine skip_ (w1 := ?_) (by rfl) rfl ?_ ?_
                                          rotate_left
                                          · go_simp
                                            rfl
                                          refine hK.out _ _ ?_
                                          clear hK K
                                          refine done_ (done_of HT_.out (by kernel_rfl)) ?_
                                          try go_wp2
                                          (try simp only [← hl3_2])
                                          go_roundg k2
                                          case measure => have := HK1.out; have := HK2.out; omega
                                          case rel => exact ⟨(y305), (wrap64 (x33_2 + 1)), (by first | rfl | (simp; done) | (simp [*]; done)), H', ⟨by have := HK1.out; have := HK2.out; omega⟩, ⟨by (try simp only [hl3_1]); (try simp only [hl3_2]); (with_reducible repeat (first | apply Kd.R_alloc | apply Kd.R_drewN | apply Kd.R_drew)); exact HQ48.out⟩, ⟨by (try simp only [hl3_1]); (try simp only [hl3_2]); (with_reducible repeat (first | apply Kd.R_alloc | apply Kd.R_drewN | apply Kd.R_drew)); exact Kd.R_mono (Kd.R_far (p := ⟨go9, (x4_1 : Int).toNat, none⟩) (Kd.R_mono HO_31.out (fun k_ hk => (⟨hk, fun e_ => hk (by rw [e_]; rfl)⟩ : _ ∧ k_ ≠ go9))) (fun _ hk => hk.2) (.int .i64 (wrap64 ((rd x3_2 x4_1) + (rd x3_2 (Go.bits .or .i64 x4_1 (ji42))))))) (fun _ hk => hk.1)⟩, ⟨by (try simp only [hl3_1]); (try simp only [hl3_2]); (with_reducible repeat (first | refine blk_drewN ?_ _ | refine blk_drew ?_ | refine blk_alloc ?_ _)); refine blk_far ?_ (by have h_ := Kd.R_ne HO_3.out BK288.out (by decide); intro e_; exact h_ (by rw [e_]; rfl)) _; (with_reducible repeat (first | refine blk_drewN ?_ _ | refine blk_drew ?_ | refine blk_alloc ?_ _)); exact BK288.out⟩, ⟨by repeat (first | (with_reducible first | exact HB.out | apply below_alloc | apply pw_below_drewN | apply below_drew1 | refine below_set ?_ GB9.out | refine below_set ?_ GE288.out) | exact HB.out)⟩⟩
                                        · rw [if_neg c44] at H
                                          exact absurd H (by simp)
                                      · rw [if_neg c43] at H
                                        exact absurd H (by simp)
                                    · rw [if_neg c40] at H
                                      exact absurd H (by simp)
                                  · rw [if_neg c39] at H
                                    exact absurd H (by simp)
                                · rw [if_neg c38] at H
                                  have c38b0 : ((Go.bits .andNot .i64 (rd l0_0 (rd t298 x33_2)) x4_1) == 0) = false := beq_eq_false_iff_ne.mpr c38
                                  have c38b1 : ((Go.bits .andNot .i64 (rd l0_0 (rd t298 x33_2)) x4_1) != 0) = true := bne_iff_ne.mpr c38
                                  have H' := Aside0.mk H
                                  clear H
                                  have p301 : 0 ≤ (x33_2 : Int) := of_decide_eq_true (by first | (with_reducible assumption) | assumption)
                                  have q301 : x33_2 < (t298.length : Int) := of_decide_eq_true (by first | (with_reducible assumption) | assumption)
                                  obtain ⟨ad301, e301, hx301_0⟩ := Kd.at_int (Kd.R_reads' HO_31.out).2.2 x33_2 p301 q301
                                  cases e301
                                  replace p301 := eq_true p301
                                  replace q301 := eq_true q301
                                  have hcz49_0 : wr.cell? ⟨gb288, 0, none⟩ = some (.slice A0_0 l0_0.length c0_0) := (blk_cell BK288.out 0).trans rfl
                                  have hfz49_0 := blk_frozen BK288.out 0
                                  have p302 : 0 ≤ ((rd t298 x33_2) : Int) := of_decide_eq_true (by first | (with_reducible assumption) | assumption)
                                  have q302 : (rd t298 x33_2) < (l0_0.length : Int) := of_decide_eq_true (by first | (with_reducible assumption) | assumption)
                                  obtain ⟨ad302, e302, hx302_0⟩ := Kd.at_int HR0_0.out (rd t298 x33_2) p302 q302
                                  cases e302
                                  replace hx302_0 := (HB.out.cell (World.block_lt_of_cell? w _ hx302_0)).trans hx302_0
                                  replace p302 := eq_true p302
                                  replace q302 := eq_true q302
                                  go_wp2
                                  (try simp only [← hl3_2])
                                  go_roundg k2
                                  case measure => have := HK1.out; have := HK2.out; omega
                                  case rel => exact ⟨(x3_2), (wrap64 (x33_2 + 1)), (by first | rfl | (simp; done) | (simp [*]; done)), H', ⟨by have := HK1.out; have := HK2.out; omega⟩, ⟨by (try simp only [hl3_1]); (try simp only [hl3_2]); (with_reducible repeat (first | apply Kd.R_alloc | apply Kd.R_drewN | apply Kd.R_drew)); exact HO_3.out⟩, ⟨by (try simp only [hl3_1]); (try simp only [hl3_2]); (with_reducible repeat (first | apply Kd.R_alloc | apply Kd.R_drewN | apply Kd.R_drew)); exact HO_31.out⟩, ⟨by (try simp only [hl3_1]); (try simp only [hl3_2]); (with_reducible repeat (first | refine blk_drewN ?_ _ | refine blk_drew ?_ | refine blk_alloc ?_ _)); exact BK288.out⟩, ⟨by repeat (first | (with_reducible first | exact HB.out | apply below_alloc | apply pw_below_drewN | apply below_drew1 | refine below_set ?_ GE288.out) | exact HB.out)⟩⟩
                              · rw [if_neg c37] at H
                                exact absurd H (by simp)
                            · rw [if_neg c36] at H
                              exact absurd H (by simp)
                          · rw [if_neg c35] at H
                            exact absurd H (by simp)
                        · rw [if_neg c34] at H
                          exact absurd H (by simp)
                      · rw [if_neg c33] at H
                        have c33b0 : decide (x33_2 < (t298.length : Int)) = false := decide_eq_false c33
                        clear c33
                        have H' := Aside0.mk H
                        clear H
                        go_wp2
                        (try simp only [← hl3_1, ← hl3_2])
                        go_roundg k2
                        case measure => have := HK1.out; have := HK2.out; omega
                        case rel => exact ⟨(x3_2), (wrap64 (x4_1 - 1)), (by first | rfl | (simp; done) | (simp [*]; done)), H', ⟨by have := HK1.out; have := HK2.out; omega⟩, ⟨by (try simp only [hl3_1]); (try simp only [hl3_2]); (with_reducible repeat (first | apply Kd.R_alloc | apply Kd.R_drewN | apply Kd.R_drew)); exact Kd.R_mono HO_3.out (fun _ hk => trivial)⟩, ⟨by (try simp only [hl3_1]); (try simp only [hl3_2]); (with_reducible repeat (first | refine blk_drewN ?_ _ | refine blk_drew ?_ | refine blk_alloc ?_ _)); exact BK288.out⟩, ⟨by repeat (first | (with_reducible first | exact HB.out | apply below_alloc | apply pw_below_drewN | apply below_drew1 | refine below_set ?_ GE288.out) | exact HB.out)⟩⟩
                · rw [if_neg c24] at H
                  have c24b0 : (t296 == x4_1) = false := beq_eq_false_iff_ne.mpr c24
                  have c24b1 : (t296 != x4_1) = true := bne_iff_ne.mpr c24
                  have H' := Aside0.mk H
                  clear H
                  have hcz50_0 : wr.cell? ⟨gb288, 0, none⟩ = some (.slice A0_0 l0_0.length c0_0) := (blk_cell BK288.out 0).trans rfl
                  have hfz50_0 := blk_frozen BK288.out 0
                  go_wp2_with (first | ((with_reducible refine gate_callee (f := 86) rfl ?_); refine goesL_ (some 24) rfl rfl Try.func86 (by kernel_rfl) rfl #[.agg #[.slice A0_0 l0_0.length c0_0], .int .i64 x4_1] rfl (by (try simp only [List.map_toArray, List.map_cons, List.map_nil]); first | done | rfl | (simp only [List.length_drop, List.length_take]; rfl)) ?_; (with_reducible refine (impl_Poset_close.calls k1 _ _ l0_0 x4_1 t296 _ ?side1 ?side2 A23.out).mono ?_); (case side1 => repeat (first | exact (Kd.C_below HR0_0.out HB.out) | (with_reducible refine Kd.C_alloc ?_ _) | (with_reducible refine Kd.C_drewN ?_ _) | (with_reducible refine Kd.C_drew ?_))); (case side2 => exact HC0_0.out); rintro e w51 ⟨rfl, hb⟩; refine ⟨_, rfl, ?_⟩; have n0_ := Aside0.mk (Kd.R_below (by (with_reducible repeat (first | apply Kd.R_alloc | apply Kd.R_drewN | apply Kd.R_drew)); exact HO_3.out) hb); have n1_ := Aside0.mk (blk_below (g := gb288) (o := .cells #[.slice A0_0 l0_0.length c0_0] 29 (0, 0)) (by (with_reducible repeat (first | refine blk_drewN ?_ _ | refine blk_drew ?_ | refine blk_alloc ?_ _)); exact BK288.out) hb); have n2_ := Aside0.mk (below_step (by repeat (first | (with_reducible first | exact HB.out | apply below_alloc | apply pw_below_drewN | apply below_drew1 | refine below_set ?_ GE288.out) | exact HB.out)) hb); clear HO_3; clear BK288; clear HB; have HO_3 := n0_; have BK288 := n1_; have HB := n2_; clear n0_ n1_ n2_; (try clear hb); (try clear hb2); (try clear hk); (try clear hi)))
                  (try simp only [← hl3_1])
                  go_roundg k1
                  case measure => have := HK1.out; omega
                  case rel => exact ⟨(x3_1), (wrap64 (x4_1 - 1)), (by first | rfl | (simp; done) | (simp [*]; done)), H', ⟨by have := HK1.out; omega⟩, ⟨by (try simp only [hl3_1]); (with_reducible repeat (first | apply Kd.R_alloc | apply Kd.R_drewN | apply Kd.R_drew)); exact HO_3.out⟩, ⟨by (try simp only [hl3_1]); (with_reducible repeat (first | refine blk_drewN ?_ _ | refine blk_drew ?_ | refine blk_alloc ?_ _)); exact BK288.out⟩, ⟨by repeat (first | (with_reducible first | exact HB.out | apply below_alloc | apply pw_below_drewN | apply below_drew1 | refine below_set ?_ GE288.out) | exact HB.out)⟩⟩
              · rw [if_neg c22] at H
                have c22b0 : decide (0 ≤ x4_1) = false := decide_eq_false c22
                clear c22
                obtain rfl := Option.some.inj H
                go_wp2
                go_ret
                exact ⟨_, by first | rfl | (simp [errW_none, errW_some] <;> rfl) | (simp only [← hji3]; first | rfl | (simp [errW_none, errW_some] <;> rfl)) | (simp [*, errW_none, errW_some] <;> rfl), by (with_reducible repeat (first | apply Kd.R_alloc | apply Kd.R_drewN | apply Kd.R_drew)); exact HO_3.out, by repeat (first | (with_reducible first | exact HB.out | apply below_alloc | apply pw_below_drewN | apply below_drew1 | refine below_set ?_ GE288.out) | exact HB.out)⟩
        · rw [if_neg c8] at H
          exact absurd H (by simp)
      · rw [if_neg c7] at H
        exact absurd H (by simp)
    · rw [if_neg c5] at H
      exact absurd H (by simp)
  · rw [if_neg c4] at H
    exact absurd H (by simp)
open Go.Proofs.Ytldbabadbggleaa.X in
set_option maxHeartbeats 400000 in
set_option maxRecDepth 100000 in
theorem slices_IndexFunc.calls (A0 : Option Addr) (c0 : Nat) (l0 : List Int) (g : Nat) (lb : Array Value) (p : Int → Bool) (w : World) (eg : ∀ args w, (callFunc g args).run Try.prog w = .ok (.enter g args) w)
    (hr0 : Kd.C (Kd.int .i64) w A0 l0.length l0) (hl : l0.length ≤ 9223372036854775806) (hp : ∀ x, x ∈ l0 → Fv Try.prog g lb #[.int .i64 x] (.bool (p x)) w) :
    Calls Try.prog 93 #[.slice A0 l0.length c0, .func (.func g) #[] lb] w fun e w' => e = .returned (.int .i64 (idxOf p l0)) ∧ Below w.heap.size w w' := by
  have HR0 := Aside0.mk hr0
  have HP := Aside0.mk hp
  clear hr0 hp
  go_enter Try.func93, Try.ntmps93
  go_wp2
  go_loopw [8] (fun v8 wr => ∃ k : Nat, k ≤ l0.length ∧ v8 = .int .i64 k ∧ Aside0 (idxOf p l0 = idxFrom p (l0.drop k) k) ∧ Aside0 (Below w.heap.size w wr)) (fun v8 _ => l0.length - (intOf v8).toNat)
  case atStart => exact ⟨0, Nat.zero_le _, rfl, ⟨rfl⟩, ⟨Below.refl _ _⟩⟩
  case round =>
    obtain ⟨k, hk, rfl, HI, HB⟩ := hrel
    by_cases hlt : k < l0.length
    · have hdrop : l0.drop k = l0[k] :: l0.drop (k + 1) := (List.drop_eq_getElem_cons hlt)
      have hrd : rd l0 (k : Int) = l0[k] := by simp [rd, List.getD_eq_getElem?_getD, hlt]
      have hmem : l0[k] ∈ l0 := List.getElem_mem hlt
      have hfv := HP.out _ hmem
      rw [← hrd] at hfv
      have hI3 := Aside0.mk (show idxOf p l0 = if p (rd l0 (k : Int)) then (k : Int) else idxFrom p (l0.drop (k + 1)) (k + 1) by rw [hrd, HI.out, hdrop, idxFrom])
      have HF := Aside0.mk hfv
      clear hfv hdrop hrd HI hmem
      have p1 : 0 ≤ ((k : Nat) : Int) := by omega
      have q1 : ((k : Nat) : Int) < (l0.length : Int) := by omega
      obtain ⟨ad, e1, hx⟩ := Kd.at_int (Kd.C_below HR0.out HB.out) k p1 q1
      rw [Int.toNat_natCast] at hx
      cases e1
      by_cases hp : p (rd l0 (k : Int)) = true
      all_goals
        have hP := Aside0.mk hp
        go_wp2_with (go_at_fn g; (with_reducible refine (Fv.calls HF.out HB.out).mono ?_); rintro e w2 ⟨rfl, hb⟩)
        first | go_ret | go_roundw
      · exact ⟨by rw [hI3.out, if_pos hP.out]; rfl, below_to HB.out hb⟩
      case rel => exact ⟨k + 1, by omega, by go_num, ⟨by rw [hI3.out, if_neg hP.out]⟩, ⟨below_to HB.out hb⟩⟩
      case measure => simp [intOf]; omega
    · go_wp2
      go_ret
      exact ⟨by rw [HI.out, List.drop_of_length_le (by omega)]; rfl, HB.out⟩
open Go.Proofs.Ytldbabadbggleaa.X in
theorem slices_DeleteFunc.idx_spec (p : Int → Bool) : ∀ (l : List Int) (i : Nat), (idxFrom p l i = -1 ∧ l.filter (fun x => !p x) = l) ∨ ∃ k, k < l.length ∧ idxFrom p l i = ((i + k : Nat) : Int) ∧ (l.take (k + 1)).filter (fun x => !p x) = l.take k
  | [], i => .inl ⟨rfl, rfl⟩
  | x :: l, i => by
    unfold idxFrom
    by_cases h : p x = true
    · rw [if_pos h]
      exact .inr ⟨0, by simp, by simp, by simp [h]⟩
    · rw [if_neg h]
      have h' : p x = false := by simpa using h
      rcases slices_DeleteFunc.idx_spec p l (i + 1) with ⟨e1, e2⟩ | ⟨k, hk, e1, e2⟩
      · exact .inl ⟨e1, by rw [List.filter_cons, h']; simp [e2]⟩
      · refine .inr ⟨k + 1, by simpa using hk, by rw [e1]; congr 1; omega, ?_⟩
        rw [List.take_succ_cons, List.filter_cons, h', List.take_succ_cons, e2]
        simp
theorem slices_DeleteFunc.below_cells {B : Nat} {a : World} (b : Nat) (hb : B ≤ b) : ∀ (vs : List Value) (o : Nat) {w : World}, Below B a w → Below B a (w.setCells b o vs)
  | [], _, _, h => h
  | v :: r, o, _, h => slices_DeleteFunc.below_cells b hb r (o + 1) (h.setCell (p := ⟨b, o, none⟩) hb v)
theorem slices_DeleteFunc.cleared {g c base e : Nat} {ok : Nat → Prop} (i : Nat) : ∀ (m o : Nat) (w : World) (xs : List Int), (Kd.int .i64).R e w base ok (.slice (some ⟨g, 0, none⟩) xs.length c) xs → i ≤ o →
    ∃ ys : List Int, (Kd.int .i64).R e (w.setCells g o (List.replicate m (.int .i64 0))) base ok (.slice (some ⟨g, 0, none⟩) ys.length c) ys ∧ ys.take i = xs.take i ∧ ys.length = xs.length
  | 0, o, w, xs, h, hi => ⟨xs, h, rfl, rfl⟩
  | m + 1, o, w, xs, h, hi => by
    have h1 := (Kd.R_putn h (o : Int) (0 : Int))
    rw [Int.toNat_natCast] at h1
    have h2 : (Kd.int .i64).R e (w.setCell ⟨g, o, none⟩ (.int .i64 0)) base ok (.slice (some ⟨g, 0, none⟩) (xs.set o 0).length c) (xs.set o 0) := by rw [List.length_set]; exact h1
    obtain ⟨ys, y1, y2, y3⟩ := slices_DeleteFunc.cleared i m (o + 1) _ _ h2 (by omega)
    exact ⟨ys, y1, by rw [y2, List.take_set_of_le hi], by rw [y3, List.length_set]⟩
theorem slices_DeleteFunc.keep {l dk : List Int} {p : Int → Bool} {i j : Nat} (hi : i < j) (hj : j < l.length) (hlen : dk.length = l.length) (h1 : dk.take i = (l.take j).filter (fun x => !p x)) (h2 : dk.drop j = l.drop j) :
    rd dk (j : Int) = l[j] ∧ (p l[j] = true → dk.take i = (l.take (j + 1)).filter (fun x => !p x)) ∧ dk.drop (j + 1) = l.drop (j + 1) ∧
    (p l[j] = false → (dk.set i l[j]).take (i + 1) = (l.take (j + 1)).filter (fun x => !p x)) ∧ (dk.set i l[j]).drop (j + 1) = l.drop (j + 1) := by
  have e0 : dk[j]? = l[j]? := by
    have := congrArg (fun x => x[0]?) h2
    simpa using this
  have e1 : dk.drop (j + 1) = l.drop (j + 1) := by
    have := congrArg (List.drop 1) h2
    rwa [List.drop_drop, List.drop_drop] at this
  refine ⟨?_, fun hp => ?_, e1, fun hp => ?_, ?_⟩
  · rw [List.getElem?_eq_getElem hj] at e0
    simp [rd, List.getD_eq_getElem?_getD, e0]
  · rw [List.take_succ_eq_append_getElem hj, List.filter_append, h1]
    simp [hp]
  · rw [List.take_succ_eq_append_getElem hj, List.filter_append, ← h1, List.take_set, List.take_succ_eq_append_getElem (show i < dk.length by omega)]
    have e2 : (dk.take i).length = i := by rw [List.length_take]; omega
    rw [List.set_append_right _ _ (by omega), e2, Nat.sub_self]
    simp [hp]
  · rw [List.drop_set_of_lt (by omega), e1]
open Go.Proofs.Ytldbabadbggleaa.X in
set_option maxHeartbeats 1600000 in
set_option maxRecDepth 100000 in
theorem slices_DeleteFunc.calls (v : Value) (l : List Int) (gF : Nat) (lbF : Array Value) (p : Int → Bool) (w0 w : World) (eg : ∀ args w, (callFunc gF args).run Try.prog w = .ok (.enter gF args) w) (hb : Below w0.heap.size w0 w)
    (hr : Kd.R (Kd.int .i64) 3 w w0.heap.size (fun _ => True) v l) (hl : l.length ≤ 9223372036854775806) (hp : ∀ x, x ∈ l → Fv Try.prog gF lbF #[.int .i64 x] (.bool (p x)) w0) :
    Calls Try.prog 87 #[v, .func (.func gF) #[] lbF] w fun e w' => ∃ v0_ : Value, e = .returned v0_ ∧ Kd.R (Kd.int .i64) 3 w' w0.heap.size (fun _ => True) v0_ (l.filter fun x => !p x) ∧ Below w0.heap.size w0 w' := by
  obtain ⟨A0, c0, rfl, hlc, hC⟩ := Kd.R_reads hr
  have EG := Aside0.mk eg
  have HR := Aside0.mk hr
  have HP := Aside0.mk hp
  have HB0 := Aside0.mk hb
  have HCC := Aside0.mk hC
  have HL := Aside0.mk hl
  have HCap := Aside0.mk hlc
  clear hr hp hb hC hl hlc
  go_enter Try.func87, Try.ntmps87
  go_wp2_with fail
  refine (slices_IndexFunc.calls A0 c0 l gF lbF p _ EG.out HCC.out HL.out (fun x hx => (HP.out x hx).later HB0.out)).mono ?_
  rintro e w1 ⟨rfl, hb⟩
  have B1 := Aside0.mk (below_to HB0.out hb)
  have R1 := Aside0.mk (Kd.R_below HR.out hb)
  clear hb HR HCC HB0
  have hs := slices_DeleteFunc.idx_spec p l 0
  have hs : (idxOf p l = -1 ∧ l.filter (fun x => !p x) = l) ∨ ∃ k, k < l.length ∧ idxOf p l = (k : Int) ∧ (l.take (k + 1)).filter (fun x => !p x) = l.take k := by
    rcases hs with h | ⟨k, h1, h2, h3⟩
    · exact .inl h
    · exact .inr ⟨k, h1, by rw [Nat.zero_add] at h2; exact h2, h3⟩
  rcases hs with ⟨e1, e2⟩ | ⟨k0, hk0, e1, e2⟩
  · rw [e1]
    have E2 := Aside0.mk e2
    clear e1 e2
    go_wp2
    go_ret
    exact ⟨_, rfl, by rw [E2.out]; exact R1.out, B1.out⟩
  · rw [e1]
    have E2 := Aside0.mk e2
    have hne : ((k0 : Int) == -1) = false := beq_eq_false_iff_ne.2 (by omega)
    obtain ⟨k1, hk1⟩ : ∃ k1, k1 = k0 + 1 := ⟨_, rfl⟩
    have e3 : wrap64 ((k0 : Int) + 1) = (k1 : Int) := by have := HL.out; unfold wrap64; omega
    rw [← hk1] at E2
    have HK1 := Aside0.mk hk1
    clear hk1
    obtain ⟨g, c1, eo, gb, gl, cl, hg⟩ := Kd.R_form R1.out (by omega)
    cases eo
    have GB := Aside0.mk gb
    clear e1 e2 gb gl hg
    go_wp2
    (try simp only [e3])
    clear e3 hne
    go_loopw [5, 6] (fun v5 v6 wr => ∃ (i j : Nat) (dk : List Int), v5 = .int .i64 i ∧ v6 = .int .i64 j ∧ i < j ∧ j ≤ l.length ∧ Aside0 (dk.length = l.length ∧ dk.take i = (l.take j).filter (fun x => !p x) ∧ dk.drop j = l.drop j) ∧ Aside0 (Kd.R (Kd.int .i64) 3 wr w0.heap.size (fun _ => True) (.slice (some ⟨g, 0, none⟩) l.length c0) dk) ∧ Aside0 (Below w0.heap.size w0 wr)) (fun _ v6 _ => l.length - (intOf v6).toNat)
    case atStart => exact ⟨k0, k1, l, rfl, by first | rfl | go_num, by have := HK1.out; omega, by have := HK1.out; omega, ⟨rfl, E2.out.symm, rfl⟩, R1, B1⟩
    case round =>
      obtain ⟨i, j, dk, rfl, rfl, hij, hjl, HI, HR, HB⟩ := hrel
      by_cases hlt : j < l.length
      · obtain ⟨k1, k2, k3, k4, k5⟩ := slices_DeleteFunc.keep hij hlt HI.out.1 HI.out.2.1 HI.out.2.2
        obtain ⟨hx, _⟩ := Kd.R_celln (0 : Int) HR.out (j : Int) (by omega) (by omega)
        have hx : wr.cell? ⟨g, j, none⟩ = some (.int .i64 l[j]) := by rw [Int.toNat_natCast] at hx; rw [hx, ← k1]; rfl
        have e2 : wrap64 ((j : Int) + 1) = ((j + 1 : Nat) : Int) := by have := HL.out; unfold wrap64; omega
        have e3 : wrap64 ((i : Int) + 1) = ((i + 1 : Nat) : Int) := by have := HL.out; unfold wrap64; omega
        have HF := Aside0.mk (HP.out _ (List.getElem_mem hlt))
        have K2 := Aside0.mk k2
        have K3 := Aside0.mk k3
        have K4 := Aside0.mk k4
        have K5 := Aside0.mk k5
        clear k1 k2 k3 k4 k5
        obtain ⟨u, hu⟩ : ∃ u, u = l[j] := ⟨_, rfl⟩
        rw [← hu] at hx HF K2 K4 K5
        clear hu
        cases hq : p u with
        | true =>
          rw [hq] at HF
          have HQ := Aside0.mk hq
          clear hq
          go_wp2_with (go_at_fn gF; (with_reducible refine (Fv.calls HF.out HB.out).mono ?_); rintro e w2 ⟨rfl, hb⟩)
          go_roundw
          case rel => exact ⟨i, j + 1, dk, rfl, by first | rfl | go_num, by omega, by omega, ⟨HI.out.1, K2.out HQ.out, K3.out⟩, ⟨Kd.R_below HR.out hb⟩, ⟨below_to HB.out hb⟩⟩
          case measure => (try simp only [e2]); exact (Nat.sub_lt_sub_left (by omega) (Nat.lt_succ_self j) : l.length - (j + 1) < l.length - j)
        | false =>
          rw [hq] at HF
          have HQ := Aside0.mk hq
          clear hq
          have hi1 : (i : Int) < (l.length : Int) := by omega
          have hi0 : 0 ≤ (i : Int) := by omega
          go_wp2_with (go_at_fn gF; (with_reducible refine (Fv.calls HF.out HB.out).mono ?_); rintro e w2 ⟨rfl, hb⟩; have R2 := Aside0.mk (Kd.R_below HR.out hb); have B2 := Aside0.mk (below_to HB.out hb); obtain ⟨hy, hz⟩ := Kd.R_celln (0 : Int) R2.out (i : Int) (by omega) (by omega); rw [Int.toNat_natCast] at hy hz; clear hb)
          go_roundw
          case rel =>
            have P2 := Kd.R_putg R2.out (i : Int) u
            rw [Int.toNat_natCast] at P2
            exact ⟨i + 1, j + 1, dk.set i u, by first | rfl | go_num, by first | rfl | go_num, by omega, by omega, ⟨by rw [List.length_set]; exact HI.out.1, K4.out HQ.out, K5.out⟩, ⟨P2.1⟩, ⟨below_set B2.out GB.out⟩⟩
          case measure => (try simp only [e2]); exact (Nat.sub_lt_sub_left (by omega) (Nat.lt_succ_self j) : l.length - (j + 1) < l.length - j)
      · have hj : j = l.length := by omega
        subst hj
        obtain ⟨h1, h2, h3⟩ := HI.out
        rw [List.take_of_length_le (Nat.le_refl _)] at h2
        have hin : i ≤ dk.length := by omega
        obtain ⟨ys, y1, y2, y3⟩ := slices_DeleteFunc.cleared (g := g) (c := c0) i (l.length - i) i wr dk (by rw [h1]; exact HR.out) (Nat.le_refl _)
        have Y1 := Aside0.mk (Kd.R_take y1 (show i ≤ ys.length by omega))
        have Y2 := Aside0.mk (show (l.filter fun x => !p x) = ys.take i by rw [y2, h2])
        have Y3 := Aside0.mk (slices_DeleteFunc.below_cells g GB.out (List.replicate (l.length - i) (.int .i64 0)) i HB.out)
        have hcl : ∀ ty, (Builtin.clear_ #[22] ty #[.slice (some ⟨g, i, none⟩) (l.length - i) (c0 - i)]).run Try.prog wr = .ok (.tuple #[]) (wr.setCells g i (List.replicate (l.length - i) (.int .i64 0))) :=
          fun ty => Lib.run_clear_slice wr 22 3 ty (.int .i64 0) Try.underlying22 (fun w => by kernel_rfl) rfl rfl g i _ _ (by omega)
            (fun t ht => by obtain ⟨hx, _⟩ := Kd.R_celln (0 : Int) HR.out ((i + t : Nat) : Int) (by omega) (by omega); rw [Int.toNat_natCast] at hx; rw [hx]; rfl)
            (fun t ht => by obtain ⟨_, hx⟩ := Kd.R_celln (0 : Int) HR.out ((i + t : Nat) : Int) (by omega) (by omega); rw [Int.toNat_natCast] at hx; exact hx)
        have q1 : (i : Int) < (l.length : Int) := by omega
        have q2 : (i : Int) ≤ (l.length : Int) := by omega
        have q3 : (l.length : Int) ≤ (c0 : Int) := by have := HCap.out; omega
        have q4 : (i : Int) ≤ (c0 : Int) := by omega
        clear y1 y2 y3 h1 h2 h3
        go_wp2
        go_ret
        exact ⟨_, rfl, by rw [Y2.out]; exact Y1.out, Y3.out⟩
def impl_Poset_next.p (l0 : List Int) (s x : Int) : Bool := Go.bits .andNot .i64 (rd l0 x) s != 0
def impl_Poset_next.ok (l0 js : List Int) : Bool := js.all fun x => decide (0 ≤ x) && decide (x < (l0.length : Int))
def impl_Poset_next.f (k : Nat) (l0 : List Int) (s : Int) : Option (List Int) := (impl_Poset_all.f l0).bind fun t => (impl_items.f k (Go.bits .andNot .i64 t s)).bind fun js => if js.length ≤ 9223372036854775806 ∧ impl_Poset_next.ok l0 js = true then some (js.filter fun x => !impl_Poset_next.p l0 s x) else none
theorem impl_Poset_next.mono : ∀ a0 a1 k, LeO (impl_Poset_next.f k a0 a1) (impl_Poset_next.f (k + 1) a0 a1) := fun l0 s k => LeO.bind (LeO.refl _) fun t => LeO.bind (impl_items.mono _ _) fun js => LeO.refl _
open Go.Proofs.Ytldbabadbggleaa.X in
set_option maxHeartbeats 800000 in
set_option maxRecDepth 100000 in
theorem impl_Poset_next.lit (A0 : Option Addr) (c0 : Nat) (l0 : List Int) (s x : Int) (B1 B2 : Nat) (w : World) (hr0 : Kd.C (Kd.int .i64) w A0 l0.length l0)
    (q1 : w.cell? ⟨B1, 0, none⟩ = some (.slice A0 l0.length c0)) (q2 : w.cell? ⟨B2, 0, none⟩ = some (.int .i64 s)) (h0 : 0 ≤ x) (h1 : x < (l0.length : Int)) :
    Fv Try.prog 88 #[.pointer (some ⟨B1, 0, none⟩), .pointer (some ⟨B2, 0, none⟩)] #[.int .i64 x] (.bool (impl_Poset_next.p l0 s x)) w := by
  intro W hb
  have p1 := pw_cell_below hb q1
  have p2 := pw_cell_below hb q2
  obtain ⟨ad, e1, hx⟩ := Kd.at_int (Kd.C_below hr0 hb) x h0 h1
  cases e1
  clear hr0 q1 q2 hb
  have hu := Try.underlying29
  unfold impl_Poset_next.p
  by_cases hq : Go.bits .andNot .i64 (rd l0 x) s = 0
  · have hq1 : decide (Go.bits .andNot .i64 (rd l0 x) s = 0) = true := decide_eq_true hq
    have hq2 : (Go.bits .andNot .i64 (rd l0 x) s == 0) = true := beq_iff_eq.mpr hq
    have hq3 : (Go.bits .andNot .i64 (rd l0 x) s != 0) = false := by rw [bne, hq2]; rfl
    have HQ := Aside0.mk hq3
    clear hq
    go_enter Try.func88, Try.ntmps88
    go_wp2_with fail
    go_region_law (fail)
    all_goals
      go_wp2
      go_ret
      exact ⟨by first | (rw [HQ.out]; rfl) | rfl, by first | exact Below.refl _ _ | exact pw_below_drewN (Below.refl _ _) _ | exact below_drew (Below.refl _ _)⟩
  · have hq1 : decide (Go.bits .andNot .i64 (rd l0 x) s = 0) = false := decide_eq_false hq
    have hq2 : (Go.bits .andNot .i64 (rd l0 x) s == 0) = false := beq_eq_false_iff_ne.mpr hq
    have hq3 : (Go.bits .andNot .i64 (rd l0 x) s != 0) = true := by rw [bne, hq2]; rfl
    have HQ := Aside0.mk hq3
    clear hq
    go_enter Try.func88, Try.ntmps88
    go_wp2_with fail
    go_region_law (fail)
    all_goals
      go_wp2
      go_ret
      exact ⟨by first | (rw [HQ.out]; rfl) | rfl, by first | exact Below.refl _ _ | exact pw_below_drewN (Below.refl _ _) _ | exact below_drew (Below.refl _ _)⟩
open Go.Proofs.Ytldbabadbggleaa.X in
set_option maxHeartbeats 1600000 in
set_option maxRecDepth 100000 in
theorem impl_Poset_next.calls (k : Nat) (A0_0 : Option Addr) (c0_0 : Nat) (l0_0 : List Int) (a1 : Int) (r : List Int) (w : World) (hr0_0 : Kd.C (Kd.int .i64) w A0_0 l0_0.length l0_0) (hc0_0 : l0_0.length ≤ c0_0) (h : impl_Poset_next.f k l0_0 a1 = some r) :
    Calls Try.prog 74 #[.agg #[.slice A0_0 l0_0.length c0_0], .int .i64 a1] w fun e w' => ∃ v0_ : Value, e = .returned v0_ ∧ Kd.R (Kd.int .i64) 3 w' w.heap.size (fun _ => True) v0_ r ∧ Below w.heap.size w w' := by
  have HR := Aside0.mk hr0_0
  have HC := Aside0.mk hc0_0
  clear hr0_0 hc0_0
  unfold impl_Poset_next.f at h
  obtain ⟨t, ht, h⟩ := Option.bind_eq_some_iff.mp h
  obtain ⟨js, hjs, h⟩ := Option.bind_eq_some_iff.mp h
  split at h
  · rename_i hc
    have HE := Aside0.mk (Option.some.inj h)
    have HT := Aside0.mk ht
    have HJ := Aside0.mk hjs
    have HO := Aside0.mk hc
    clear h ht hjs hc
    have hu := Try.underlying29
    go_enter Try.func74, Try.ntmps74
    have GR := Aside0.mk (fun x (hx : x ∈ js) => by have h := (List.all_eq_true.mp HO.out.2) x hx; simp only [Bool.and_eq_true, decide_eq_true_eq] at h; exact h : ∀ x ∈ js, 0 ≤ x ∧ x < (l0_0.length : Int))
    go_wp2_with fail
    go_region_law (first
      | (rw [if_pos (by rfl)]; go_simp; go_at_call 73; refine (impl_Poset_all.calls _ _ l0_0 t _ (Kd.C_below HR.out (below_drew1 (below_alloc (below_alloc (Below.refl _ _) _) _))) HC.out HT.out).mono ?_; rintro e w1 ⟨rfl, hb⟩; have z1 : w1.cell? ⟨w.heap.size, 0, none⟩ = some (.slice A0_0 l0_0.length c0_0) := pw_cell_below hb (by simp); have z2 : w1.cell? ⟨w.heap.size + 1, 0, none⟩ = some (.int .i64 a1) := pw_cell_below hb (by simp); have B1 := Aside0.mk (below_to (below_drew1 (below_alloc (below_alloc (Below.refl w.heap.size w) _) _)) hb); clear hb; dsimp only)
      | (rw [if_pos (by rfl)]; go_simp; go_at_call 54; refine (impl_items.calls k _ js _ HJ.out).mono ?_; rintro e w2 ⟨vJ, rfl, hR, hb⟩; have R2 := Aside0.mk hR; have B2 := Aside0.mk hb; clear hR hb; dsimp only)
      | (rw [if_pos (by rfl)]; go_simp; go_at_call 87; refine (slices_DeleteFunc.calls vJ js 88 #[.pointer (some ⟨w.heap.size, 0, none⟩), .pointer (some ⟨w.heap.size + 1, 0, none⟩)] (impl_Poset_next.p l0_0 a1) w1 _ (enters_ Try.func88 (by kernel_rfl) rfl) B2.out R2.out HO.out.1 (fun x hx => impl_Poset_next.lit A0_0 c0_0 l0_0 a1 x _ _ w1 (Kd.C_below HR.out B1.out) z1 z2 (GR.out x hx).1 (GR.out x hx).2)).mono ?_; rintro e w3 ⟨v3, rfl, hR, hb⟩; have R3 := Aside0.mk (Kd.R_lower hR B1.out.size); have B3 := Aside0.mk (below_to B1.out hb); clear hR hb; dsimp only))
    all_goals
      go_wp2
      go_ret
      exact ⟨_, rfl, by rw [← HE.out]; exact R3.out, B3.out⟩
  · cases h
end Go.Proofs.Ytldbabadbggleaa.L
end
