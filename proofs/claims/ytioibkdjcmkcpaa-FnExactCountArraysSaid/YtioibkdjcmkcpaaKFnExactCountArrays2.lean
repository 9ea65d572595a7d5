/- Laws about the given program: the law FnExactCountArrays answers true for every input that its row lets in; no condition is added to the given statement. Contracts of the Go functions that it reaches, and the plain proof over lists. -/
import Derived.Test.YtioibkdjcmkcpaaWFnExactCountArrays0
import Derived.Test.YtioibkdjcmkcpaaKFnExactCountArrays0
import Derived.Test.YtioibkdjcmkcpaaKFnExactCountArrays1
section
namespace Go.Proofs.Ytioibkdjcmkcpaa.L
open Go.RowKit Go.Proofs.YtioibkdjcmkcpaaW.PrintWords Go.Proofs.YtioibkdjcmkcpaaW.PrintLast Go.Proofs.YtioibkdjcmkcpaaW.PrintMore
attribute [local go_sem] max2_int min2_int max_two min_two max_three min_three max_four min_four
set_option linter.unusedVariables false
set_option linter.unusedSimpArgs false
mutual
def impl_IsPoset.l0 : Nat → List Int → Int → Int → List Int → Option (Bool)
  | 0, _, _, _, _ => none
  | k + 1, x12, x13, x14, x141000 => if x14 < x13 then (if 0 ≤ x14 then (if x14 < (x12.length : Int) then ((impl_within.f (rd x12 x14) 0 (wrap64 ((shl .i64 1 x14) - 1))).bind fun t144 => (if t144 = true then ((impl_items.f k (rd x12 x14)).bind fun t145 => (impl_IsPoset.l1 k (rd x12 x14) x12 x13 x14 t145 (t145.length : Int) 0 x141000)) else (some false))) else (none)) else (none)) else (some true)
def impl_IsPoset.l1 : Nat → Int → List Int → Int → Int → List Int → Int → Int → List Int → Option (Bool)
  | 0, _, _, _, _, _, _, _, _ => none
  | k + 1, x4, x12, x13, x14, x26, x27, x28, x141000 => if x28 < x27 then (if 0 ≤ x28 then (if x28 < (x26.length : Int) then (if 0 ≤ (rd x26 x28) then (if (rd x26 x28) < (x141000.length : Int) then (if (Go.bits .andNot .i64 (rd x141000 (rd x26 x28)) x4) = 0 then (impl_IsPoset.l1 k x4 x12 x13 x14 x26 x27 (wrap64 (x28 + 1)) x141000) else (some false)) else (none)) else (none)) else (none)) else (none)) else (impl_IsPoset.l0 k x12 x13 (wrap64 (x14 + 1)) x141000)
end
def impl_IsPoset.f (k : Nat) (l0_0 : List Int) : Option (Bool) := (impl_Poset_n.f l0_0).bind fun t141 => ((impl_within.f t141 1 10).bind fun t142 => (if t142 = true then (impl_IsPoset.l0 k l0_0 (l0_0.length : Int) 0 l0_0) else (some false)))
theorem impl_IsPoset.mono_l : ∀ k, (∀ y0 y1 y2 y3, LeO (impl_IsPoset.l0 k y0 y1 y2 y3) (impl_IsPoset.l0 (k + 1) y0 y1 y2 y3)) ∧ (∀ y0 y1 y2 y3 y4 y5 y6 y7, LeO (impl_IsPoset.l1 k y0 y1 y2 y3 y4 y5 y6 y7) (impl_IsPoset.l1 (k + 1) y0 y1 y2 y3 y4 y5 y6 y7))
  | 0 => ⟨fun _ _ _ _ r h => by simp [impl_IsPoset.l0] at h, fun _ _ _ _ _ _ _ _ r h => by simp [impl_IsPoset.l1] at h⟩
  | k + 1 => by
    obtain ⟨ih0, ih1⟩ := impl_IsPoset.mono_l k
    refine ⟨?_, ?_⟩
    · intro y0 y1 y2 y3
      unfold impl_IsPoset.l0
      repeat' first
      | (with_reducible exact ih0 _ _ _ _)
      | (with_reducible exact ih1 _ _ _ _ _ _ _ _)
      | (with_reducible exact impl_items.mono _ _)
      | (with_reducible exact LeO.refl _)
      | (with_reducible exact LeO.none _)
      | (with_reducible refine LeO.ite ?_ ?_)
      | (with_reducible refine LeO.bind ?_ (fun _ => ?_))
      | exact ih0 _ _ _ _
      | exact ih1 _ _ _ _ _ _ _ _
      | exact impl_items.mono _ _
      | exact LeO.none _
      | refine LeO.ite ?_ ?_
      | refine LeO.bind ?_ (fun _ => ?_)
    · intro y0 y1 y2 y3 y4 y5 y6 y7
      unfold impl_IsPoset.l1
      repeat' first
      | (with_reducible exact ih0 _ _ _ _)
      | (with_reducible exact ih1 _ _ _ _ _ _ _ _)
      | (with_reducible exact impl_items.mono _ _)
      | (with_reducible exact LeO.refl _)
      | (with_reducible exact LeO.none _)
      | (with_reducible refine LeO.ite ?_ ?_)
      | (with_reducible refine LeO.bind ?_ (fun _ => ?_))
      | exact ih0 _ _ _ _
      | exact ih1 _ _ _ _ _ _ _ _
      | exact impl_items.mono _ _
      | exact LeO.none _
      | refine LeO.ite ?_ ?_
      | refine LeO.bind ?_ (fun _ => ?_)
theorem impl_IsPoset.mono : ∀ a0 k, LeO (impl_IsPoset.f k a0) (impl_IsPoset.f (k + 1) a0) := by
  intro a0 k
  obtain ⟨ih0, ih1⟩ := impl_IsPoset.mono_l k
  unfold impl_IsPoset.f
  repeat' first
      | (with_reducible exact ih0 _ _ _ _)
      | (with_reducible exact ih1 _ _ _ _ _ _ _ _)
      | (with_reducible exact impl_items.mono _ _)
      | (with_reducible exact LeO.refl _)
      | (with_reducible exact LeO.none _)
      | (with_reducible refine LeO.ite ?_ ?_)
      | (with_reducible refine LeO.bind ?_ (fun _ => ?_))
      | exact ih0 _ _ _ _
      | exact ih1 _ _ _ _ _ _ _ _
      | exact impl_items.mono _ _
      | exact LeO.none _
      | refine LeO.ite ?_ ?_
      | refine LeO.bind ?_ (fun _ => ?_)
set_option maxHeartbeats 8000000 in
set_option maxRecDepth 100000 in
theorem impl_IsPoset.calls (k : Nat) (A0_0 : Option Addr) (c0_0 : Nat) (l0_0 : List Int) (r : Bool) (w : World) (hr0_0 : Kd.C (Kd.int .i64) w A0_0 l0_0.length l0_0) (hc0_0 : l0_0.length ≤ c0_0) (h : impl_IsPoset.f k l0_0 = some r) :
    Calls Try.prog 99 #[.agg #[.slice A0_0 l0_0.length c0_0]] w fun e w' => e = .returned (.bool r) ∧ Below w.heap.size w w' := by
  have hu28 := Try.underlying28
  have HR0_0 := Aside0.mk hr0_0
  have HC0_0 := Aside0.mk hc0_0
  clear hr0_0 hc0_0
  have HB := Aside0.mk (Below.refl w.heap.size w)
  have H : ((impl_Poset_n.f l0_0).bind fun t141 => ((impl_within.f t141 1 10).bind fun t142 => (if t142 = true then (impl_IsPoset.l0 k l0_0 (l0_0.length : Int) 0 l0_0) else (some false)))) = some r := h
  clear h
  replace H := Option.bind_eq_some_iff.mp H
  obtain ⟨t141, A20, H⟩ := H
  replace H : ((impl_within.f t141 1 10).bind fun t142 => (if t142 = true then (impl_IsPoset.l0 k l0_0 (l0_0.length : Int) 0 l0_0) else (some false))) = some r := H
  have A2 := Aside0.mk A20
  clear A20
  replace H := Option.bind_eq_some_iff.mp H
  obtain ⟨t142, A30, H⟩ := H
  replace H : (if t142 = true then (impl_IsPoset.l0 k l0_0 (l0_0.length : Int) 0 l0_0) else (some false)) = some r := H
  have A3 := Aside0.mk A30
  clear A30
  by_cases c4 : t142 = true
  · subst c4
    have H1 : (impl_IsPoset.l0 k l0_0 (l0_0.length : Int) 0 l0_0) = some r := by rw [if_pos rfl] at H; exact H
    clear H
    have H := H1
    clear H1
    have H' := Aside0.mk H
    clear H
    go_enter Try.func99, Try.ntmps99
    go_wp2_with (first | ((with_reducible refine gate_dst (N := 1) rfl ?_); refine box_event ?hg (N := 1) ?hd (cs := #[.slice A0_0 l0_0.length c0_0]) (t := 28) ?hr ?_; (case hd => rfl); (case hg => rfl); (case hr => first | (go_simp; done) | (go_simp; rfl)); intro gb140 hg w5 hbox hb; have n0_ := Aside0.mk (below_step (by repeat (first | (with_reducible first | exact HB.out | apply below_alloc | apply pw_below_drewN | apply below_drew1) | exact HB.out)) hb); have n1_ := Aside0.mk (hbox); have n2_ := Aside0.mk ((by rw [hg]; exact (below_size (by repeat (first | (with_reducible first | exact HB.out | apply below_alloc | apply pw_below_drewN | apply below_drew1) | exact HB.out))) : w.heap.size ≤ gb140)); have n3_ := Aside0.mk ((by rw [hg]; exact (below_size (by repeat (first | (with_reducible first | exact HB.out | apply below_alloc | apply pw_below_drewN | apply below_drew1) | exact HB.out))) : w.heap.size ≤ gb140)); clear HB; have HB := n0_; have BK140 := n1_; have GW140 := n2_; have GE140 := n3_; clear n0_ n1_ n2_ n3_; clear hb hbox hg; have hcz6_0 : w5.cell? ⟨gb140, 0, none⟩ = some (.slice A0_0 l0_0.length c0_0) := (blk_cell BK140.out 0).trans rfl; have hfz6_0 := blk_frozen BK140.out 0) | ((with_reducible refine gate_callee (f := 52) rfl ?_); refine goesL_ (some 8) rfl rfl Try.func52 (by kernel_rfl) rfl #[.agg #[.slice A0_0 l0_0.length c0_0]] rfl (by (try simp only [List.map_toArray, List.map_cons, List.map_nil]); first | done | rfl | (simp only [List.length_drop, List.length_take]; rfl)) ?_; (with_reducible refine (impl_Poset_n.calls _ _ l0_0 t141 _ ?side1 ?side2 A2.out).mono ?_); (case side1 => repeat (first | exact (Kd.C_below HR0_0.out HB.out) | (with_reducible refine Kd.C_alloc ?_ _) | (with_reducible refine Kd.C_drewN ?_ _) | (with_reducible refine Kd.C_drew ?_))); (case side2 => exact HC0_0.out); rintro e w7 ⟨rfl, hb⟩; refine ⟨_, rfl, ?_⟩; have n0_ := Aside0.mk (blk_below (g := gb140) (o := .cells #[.slice A0_0 l0_0.length c0_0] 28 (0, 0)) (by (with_reducible repeat (first | refine blk_drewN ?_ _ | refine blk_drew ?_ | refine blk_alloc ?_ _)); exact BK140.out) hb); have n1_ := Aside0.mk (below_step (by repeat (first | (with_reducible first | exact HB.out | apply below_alloc | apply pw_below_drewN | apply below_drew1 | refine below_set ?_ GE140.out) | exact HB.out)) hb); clear BK140; clear HB; have BK140 := n0_; have HB := n1_; clear n0_ n1_; (try clear hb); (try clear hb2); (try clear hk); (try clear hi)) | ((with_reducible refine gate_callee (f := 59) rfl ?_); refine goesL_ (some 9) rfl rfl Try.func59 (by kernel_rfl) rfl #[.int .i64 t141, .int .i64 1, .int .i64 10] rfl (by (try simp only [List.map_toArray, List.map_cons, List.map_nil]); first | done | rfl | (simp only [List.length_drop, List.length_take]; rfl)) ?_; (with_reducible refine (impl_within.calls t141 1 10 true _ A3.out).mono ?_); rintro e w' ⟨rfl, ⟨nd, rfl⟩⟩; refine ⟨_, rfl, ?_⟩; have hcz8_0 : w7.cell? ⟨gb140, 0, none⟩ = some (.slice A0_0 l0_0.length c0_0) := (blk_cell BK140.out 0).trans rfl; have hfz8_0 := blk_frozen BK140.out 0))
    go_loopg [14] k (fun kq v14 w' => ∃ (x14_1 : Int), v14 = .int .i64 x14_1 ∧ Aside0 (impl_IsPoset.l0 kq l0_0 (l0_0.length : Int) x14_1 l0_0 = some r) ∧ Aside0 (kq ≤ k) ∧ Aside0 (w'.heap[gb140]? = some (.cells #[(.slice A0_0 l0_0.length c0_0)] 28 (0, 0))) ∧ Aside0 (Below w.heap.size w w'))
    case atStart => exact ⟨(0), (by first | rfl | (simp; done) | (simp [*]; done)), H', ⟨Nat.le_refl _⟩, ⟨by (with_reducible repeat (first | refine blk_drewN ?_ _ | refine blk_drew ?_ | refine blk_alloc ?_ _)); exact BK140.out⟩, ⟨by repeat (first | (with_reducible first | exact HB.out | apply below_alloc | apply pw_below_drewN | apply below_drew1 | refine below_set ?_ GE140.out) | exact HB.out)⟩⟩
    case round =>
      clear H'
      try clear p2
      try clear c4
      try clear c5
      try clear hcz6_0
      try clear hcz8_0
      try clear hfz6_0
      try clear hfz8_0
      obtain ⟨x14_1, rfl, HA, HK1, BK140, HB⟩ := hrel
      cases gk with
      | zero => exact absurd HA.out (by simp [impl_IsPoset.l0])
      | succ k1 =>
        have H := HA.out
        clear HA
        simp only [impl_IsPoset.l0] at H
        by_cases c9 : x14_1 < (l0_0.length : Int)
        · rw [if_pos c9] at H
          have c9b0 : decide (x14_1 < (l0_0.length : Int)) = true := decide_eq_true c9
          clear c9
          by_cases c10 : 0 ≤ x14_1
          · rw [if_pos c10] at H
            have c10b0 : decide (0 ≤ x14_1) = true := decide_eq_true c10
            clear c10
            by_cases c11 : x14_1 < (l0_0.length : Int)
            · rw [if_pos c11] at H
              have c11b0 : decide (x14_1 < (l0_0.length : Int)) = true := decide_eq_true c11
              clear c11
              have c12b0 := eq_true (of_decide_eq_true (by first | (with_reducible assumption) | assumption) : 0 ≤ x14_1)
              obtain ⟨ji13, hji13⟩ : ∃ j_ : Int, (shl .i64 1 x14_1) = j_ := ⟨_, rfl⟩
              replace H : ((impl_within.f (rd l0_0 x14_1) 0 (wrap64 ((ji13) - 1))).bind fun t144 => (if t144 = true then ((impl_items.f k1 (rd l0_0 x14_1)).bind fun t145 => (impl_IsPoset.l1 k1 (rd l0_0 x14_1) l0_0 (l0_0.length : Int) x14_1 t145 (t145.length : Int) 0 l0_0)) else (some false))) = some r := by first | (rw [hji13] at H; exact H) | (simp only [hji13] at H ⊢; exact H)
              have hji13_ : (IntKind.i64.wrap (1 * 2 ^ min x14_1.toNat 64)) = ji13 := hji13
              have hji13z : x14_1 ≤ 64 → (IntKind.i64.wrap (1 * 2 ^ x14_1.toNat)) = ji13 := shl_small hji13
              have hji13u : (IntKind.i64.wrap (2 ^ min x14_1.toNat 64)) = ji13 := by have h_ := hji13_; rw [Int.one_mul] at h_; exact h_
              have hji13v : x14_1 ≤ 64 → (IntKind.i64.wrap (2 ^ x14_1.toNat)) = ji13 := fun hle_ => by have h_ := hji13z hle_; rw [Int.one_mul] at h_; exact h_
              have hji13y : (wrap64 (1 * 2 ^ min x14_1.toNat 64)) = ji13 := (i64_w _).symm.trans hji13_
              have hji13x : x14_1 ≤ 64 → (wrap64 (1 * 2 ^ x14_1.toNat)) = ji13 := fun h_ => (i64_w _).symm.trans (hji13z h_)
              replace H := Option.bind_eq_some_iff.mp H
              obtain ⟨t144, A140, H⟩ := H
              replace H : (if t144 = true then ((impl_items.f k1 (rd l0_0 x14_1)).bind fun t145 => (impl_IsPoset.l1 k1 (rd l0_0 x14_1) l0_0 (l0_0.length : Int) x14_1 t145 (t145.length : Int) 0 l0_0)) else (some false)) = some r := H
              have A14 := Aside0.mk A140
              clear A140
              by_cases c15 : t144 = true
              · subst c15
                have H1 : ((impl_items.f k1 (rd l0_0 x14_1)).bind fun t145 => (impl_IsPoset.l1 k1 (rd l0_0 x14_1) l0_0 (l0_0.length : Int) x14_1 t145 (t145.length : Int) 0 l0_0)) = some r := by rw [if_pos rfl] at H; exact H
                clear H
                have H := H1
                clear H1
                replace H := Option.bind_eq_some_iff.mp H
                obtain ⟨t145, A160, H⟩ := H
                replace H : (impl_IsPoset.l1 k1 (rd l0_0 x14_1) l0_0 (l0_0.length : Int) x14_1 t145 (t145.length : Int) 0 l0_0) = some r := H
                have A16 := Aside0.mk A160
                clear A160
                have H' := Aside0.mk H
                clear H
                have p143 : 0 ≤ (x14_1 : Int) := of_decide_eq_true (by first | (with_reducible assumption) | assumption)
                have q143 : x14_1 < (l0_0.length : Int) := of_decide_eq_true (by first | (with_reducible assumption) | assumption)
                obtain ⟨ad143, e143, hx143_0⟩ := Kd.at_int HR0_0.out x14_1 p143 q143
                cases e143
                replace hx143_0 := (HB.out.cell (World.block_lt_of_cell? w _ hx143_0)).trans hx143_0
                replace p143 := eq_true p143
                replace q143 := eq_true q143
                go_wp2_with (first | ((with_reducible refine gate_callee (f := 59) rfl ?_); refine goesL_ (some 23) rfl rfl Try.func59 (by kernel_rfl) rfl #[.int .i64 (rd l0_0 x14_1), .int .i64 0, .int .i64 (wrap64 ((ji13) - 1))] rfl (by (try simp only [List.map_toArray, List.map_cons, List.map_nil]); first | done | (simp only [hji13]; rfl) | rfl | (simp only [List.length_drop, List.length_take]; rfl)) ?_; (with_reducible refine (impl_within.calls (rd l0_0 x14_1) 0 (wrap64 ((ji13) - 1)) true _ A14.out).mono ?_); rintro e w' ⟨rfl, ⟨nd, rfl⟩⟩; refine ⟨_, rfl, ?_⟩) | ((with_reducible refine gate_callee (f := 100) rfl ?_); refine goesL_ (some 26) rfl rfl Try.func100 (by kernel_rfl) rfl #[.int .i64 (rd l0_0 x14_1)] rfl (by (try simp only [List.map_toArray, List.map_cons, List.map_nil]); first | done | rfl | (simp only [List.length_drop, List.length_take]; rfl)) ?_; (with_reducible refine (impl_items.calls k1 (rd l0_0 x14_1) t145 _ A16.out).mono ?_); rintro e w17 ⟨v146, rfl, ho0, hb⟩; refine ⟨_, rfl, ?_⟩; have n0_ := Aside0.mk (Kd.R_lower ho0 (below_size (by repeat (first | (with_reducible first | exact HB.out | apply below_alloc | apply pw_below_drewN | apply below_drew1 | refine below_set ?_ GE140.out) | exact HB.out)))); have n1_ := Aside0.mk (blk_below (g := gb140) (o := .cells #[.slice (some ad143) l0_0.length c0_0] 28 (0, 0)) (by (with_reducible repeat (first | refine blk_drewN ?_ _ | refine blk_drew ?_ | refine blk_alloc ?_ _)); exact BK140.out) hb); have n2_ := Aside0.mk (below_step (by repeat (first | (with_reducible first | exact HB.out | apply below_alloc | apply pw_below_drewN | apply below_drew1 | refine below_set ?_ GE140.out) | exact HB.out)) hb); clear BK140; clear HB; have HO147 := n0_; have BK140 := n1_; have HB := n2_; clear n0_ n1_ n2_; (try clear hb); (try clear hb2); (try clear hk); (try clear hi); (try clear ho0); obtain ⟨Ao18, co18, eo18⟩ := Kd.R_slice HO147.out; subst eo18))
                go_loopg [28] k1 (fun kq v28 w' => ∃ (x28_2 : Int), v28 = .int .i64 x28_2 ∧ Aside0 (impl_IsPoset.l1 kq (rd l0_0 x14_1) l0_0 (l0_0.length : Int) x14_1 t145 (t145.length : Int) x28_2 l0_0 = some r) ∧ Aside0 (kq ≤ k1) ∧ Aside0 (Kd.R (Kd.int .i64) 3 w' w.heap.size (fun _ => True) (.slice Ao18 t145.length co18) t145) ∧ Aside0 (w'.heap[gb140]? = some (.cells #[(.slice (some ad143) l0_0.length c0_0)] 28 (0, 0))) ∧ Aside0 (Below w.heap.size w w'))
                case atStart => exact ⟨(0), (by first | rfl | (simp; done) | (simp [*]; done)), H', ⟨Nat.le_refl _⟩, ⟨by (with_reducible repeat (first | apply Kd.R_alloc | apply Kd.R_drewN | apply Kd.R_drew)); exact HO147.out⟩, ⟨by (with_reducible repeat (first | refine blk_drewN ?_ _ | refine blk_drew ?_ | refine blk_alloc ?_ _)); exact BK140.out⟩, ⟨by repeat (first | (with_reducible first | exact HB.out | apply below_alloc | apply pw_below_drewN | apply below_drew1 | refine below_set ?_ GE140.out) | exact HB.out)⟩⟩
                case round =>
                  clear H'
                  try clear c1
                  try clear p1
                  try clear q1
                  try clear hx1
                  try clear p2
                  try clear c4
                  try clear c5
                  try clear p6
                  try clear c9
                  try clear c9b0
                  try clear c10
                  try clear c10b0
                  try clear c11
                  try clear c11b0
                  try clear c12
                  try clear c12b0
                  try clear p14
                  try clear q14
                  try clear hx14
                  try clear c15
                  try clear hcz6_0
                  try clear hcz8_0
                  try clear hfz6_0
                  try clear hfz8_0
                  try clear hx143_0
                  try clear p143
                  try clear p2
                  try clear q143
                  obtain ⟨x28_2, rfl, HA, HK2, HO_26, BK140, HB⟩ := hrel
                  cases gk with
                  | zero => exact absurd HA.out (by simp [impl_IsPoset.l1])
                  | succ k2 =>
                    have H := HA.out
                    clear HA
                    simp only [impl_IsPoset.l1] at H
                    by_cases c19 : x28_2 < (t145.length : Int)
                    · rw [if_pos c19] at H
                      have c19b0 : decide (x28_2 < (t145.length : Int)) = true := decide_eq_true c19
                      clear c19
                      by_cases c20 : 0 ≤ x28_2
                      · rw [if_pos c20] at H
                        have c20b0 : decide (0 ≤ x28_2) = true := decide_eq_true c20
                        clear c20
                        by_cases c21 : x28_2 < (t145.length : Int)
                        · rw [if_pos c21] at H
                          have c21b0 : decide (x28_2 < (t145.length : Int)) = true := decide_eq_true c21
                          clear c21
                          by_cases c22 : 0 ≤ (rd t145 x28_2)
                          · rw [if_pos c22] at H
                            have c22b0 : decide (0 ≤ (rd t145 x28_2)) = true := decide_eq_true c22
                            clear c22
                            by_cases c23 : (rd t145 x28_2) < (l0_0.length : Int)
                            · rw [if_pos c23] at H
                              have c23b0 : decide ((rd t145 x28_2) < (l0_0.length : Int)) = true := decide_eq_true c23
                              clear c23
                              by_cases c24 : (Go.bits .andNot .i64 (rd l0_0 (rd t145 x28_2)) (rd l0_0 x14_1)) = 0
                              · rw [if_pos c24] at H
                                have c24b0 : ((Go.bits .andNot .i64 (rd l0_0 (rd t145 x28_2)) (rd l0_0 x14_1)) == 0) = true := beq_iff_eq.mpr c24
                                have c24b1 : ((Go.bits .andNot .i64 (rd l0_0 (rd t145 x28_2)) (rd l0_0 x14_1)) != 0) = false := bne_eq_false_iff_eq.mpr c24
                                clear c24
                                have H' := Aside0.mk H
                                clear H
                                have p148 : 0 ≤ (x28_2 : Int) := of_decide_eq_true (by first | (with_reducible assumption) | assumption)
                                have q148 : x28_2 < (t145.length : Int) := of_decide_eq_true (by first | (with_reducible assumption) | assumption)
                                obtain ⟨ad148, e148, hx148_0⟩ := Kd.at_int (Kd.R_reads' HO_26.out).2.2 x28_2 p148 q148
                                cases e148
                                replace p148 := eq_true p148
                                replace q148 := eq_true q148
                                have hcz25_0 : wr.cell? ⟨gb140, 0, none⟩ = some (.slice (some ad143) l0_0.length c0_0) := (blk_cell BK140.out 0).trans rfl
                                have hfz25_0 := blk_frozen BK140.out 0
                                have p149 : 0 ≤ ((rd t145 x28_2) : Int) := of_decide_eq_true (by first | (with_reducible assumption) | assumption)
                                have q149 : (rd t145 x28_2) < (l0_0.length : Int) := of_decide_eq_true (by first | (with_reducible assumption) | assumption)
                                obtain ⟨ad149, e149, hx149_0⟩ := Kd.at_int HR0_0.out (rd t145 x28_2) p149 q149
                                obtain rfl : ad143 = ad149 := (by injection e149)
                                replace hx149_0 := (HB.out.cell (World.block_lt_of_cell? w _ hx149_0)).trans hx149_0
                                replace p149 := eq_true p149
                                replace q149 := eq_true q149
                                go_wp2
                                go_roundg k2
                                case measure => have := HK1.out; have := HK2.out; omega
                                case rel => exact ⟨(wrap64 (x28_2 + 1)), (by first | rfl | (simp; done) | (simp [*]; done)), H', ⟨by have := HK1.out; have := HK2.out; omega⟩, ⟨by (with_reducible repeat (first | apply Kd.R_alloc | apply Kd.R_drewN | apply Kd.R_drew)); exact HO_26.out⟩, ⟨by (with_reducible repeat (first | refine blk_drewN ?_ _ | refine blk_drew ?_ | refine blk_alloc ?_ _)); exact BK140.out⟩, ⟨by repeat (first | (with_reducible first | exact HB.out | apply below_alloc | apply pw_below_drewN | apply below_drew1 | refine below_set ?_ GE140.out) | exact HB.out)⟩⟩
                              · rw [if_neg c24] at H
                                have c24b0 : ((Go.bits .andNot .i64 (rd l0_0 (rd t145 x28_2)) (rd l0_0 x14_1)) == 0) = false := beq_eq_false_iff_ne.mpr c24
                                have c24b1 : ((Go.bits .andNot .i64 (rd l0_0 (rd t145 x28_2)) (rd l0_0 x14_1)) != 0) = true := bne_iff_ne.mpr c24
                                obtain rfl := Option.some.inj H
                                have p148 : 0 ≤ (x28_2 : Int) := of_decide_eq_true (by first | (with_reducible assumption) | assumption)
                                have q148 : x28_2 < (t145.length : Int) := of_decide_eq_true (by first | (with_reducible assumption) | assumption)
                                obtain ⟨ad148, e148, hx148_0⟩ := Kd.at_int (Kd.R_reads' HO_26.out).2.2 x28_2 p148 q148
                                cases e148
                                replace p148 := eq_true p148
                                replace q148 := eq_true q148
                                have hcz26_0 : wr.cell? ⟨gb140, 0, none⟩ = some (.slice (some ad143) l0_0.length c0_0) := (blk_cell BK140.out 0).trans rfl
                                have hfz26_0 := blk_frozen BK140.out 0
                                have p149 : 0 ≤ ((rd t145 x28_2) : Int) := of_decide_eq_true (by first | (with_reducible assumption) | assumption)
                                have q149 : (rd t145 x28_2) < (l0_0.length : Int) := of_decide_eq_true (by first | (with_reducible assumption) | assumption)
                                obtain ⟨ad149, e149, hx149_0⟩ := Kd.at_int HR0_0.out (rd t145 x28_2) p149 q149
                                obtain rfl : ad143 = ad149 := (by injection e149)
                                replace hx149_0 := (HB.out.cell (World.block_lt_of_cell? w _ hx149_0)).trans hx149_0
                                replace p149 := eq_true p149
                                replace q149 := eq_true q149
                                go_wp2
                                go_ret
                                exact ⟨by first | rfl | (simp [errW_none, errW_some] <;> rfl) | (simp only [← hji13]; first | rfl | (simp [errW_none, errW_some] <;> rfl)) | (simp [*, errW_none, errW_some] <;> rfl), by repeat (first | (with_reducible first | exact HB.out | apply below_alloc | apply pw_below_drewN | apply below_drew1 | refine below_set ?_ GE140.out) | exact HB.out)⟩
                            · rw [if_neg c23] at H
                              exact absurd H (by simp)
                          · rw [if_neg c22] at H
                            exact absurd H (by simp)
                        · rw [if_neg c21] at H
                          exact absurd H (by simp)
                      · rw [if_neg c20] at H
                        exact absurd H (by simp)
                    · rw [if_neg c19] at H
                      have c19b0 : decide (x28_2 < (t145.length : Int)) = false := decide_eq_false c19
                      clear c19
                      have H' := Aside0.mk H
                      clear H
                      go_wp2
                      go_roundg k2
                      case measure => have := HK1.out; have := HK2.out; omega
                      case rel => exact ⟨(wrap64 (x14_1 + 1)), (by first | rfl | (simp; done) | (simp [*]; done)), H', ⟨by have := HK1.out; have := HK2.out; omega⟩, ⟨by (with_reducible repeat (first | refine blk_drewN ?_ _ | refine blk_drew ?_ | refine blk_alloc ?_ _)); exact BK140.out⟩, ⟨by repeat (first | (with_reducible first | exact HB.out | apply below_alloc | apply pw_below_drewN | apply below_drew1 | refine below_set ?_ GE140.out) | exact HB.out)⟩⟩
              · replace c15 := Bool.eq_false_iff.mpr c15
                subst c15
                have H1 : (some false) = some r := by rw [if_neg (show ¬ (false = true) by decide)] at H; exact H
                clear H
                have H := H1
                clear H1
                obtain rfl := Option.some.inj H
                have p143 : 0 ≤ (x14_1 : Int) := of_decide_eq_true (by first | (with_reducible assumption) | assumption)
                have q143 : x14_1 < (l0_0.length : Int) := of_decide_eq_true (by first | (with_reducible assumption) | assumption)
                obtain ⟨ad143, e143, hx143_0⟩ := Kd.at_int HR0_0.out x14_1 p143 q143
                cases e143
                replace hx143_0 := (HB.out.cell (World.block_lt_of_cell? w _ hx143_0)).trans hx143_0
                replace p143 := eq_true p143
                replace q143 := eq_true q143
                go_wp2_with (first | ((with_reducible refine gate_callee (f := 59) rfl ?_); refine goesL_ (some 23) rfl rfl Try.func59 (by kernel_rfl) rfl #[.int .i64 (rd l0_0 x14_1), .int .i64 0, .int .i64 (wrap64 ((ji13) - 1))] rfl (by (try simp only [List.map_toArray, List.map_cons, List.map_nil]); first | done | (simp only [hji13]; rfl) | rfl | (simp only [List.length_drop, List.length_take]; rfl)) ?_; (with_reducible refine (impl_within.calls (rd l0_0 x14_1) 0 (wrap64 ((ji13) - 1)) false _ A14.out).mono ?_); rintro e w' ⟨rfl, ⟨nd, rfl⟩⟩; refine ⟨_, rfl, ?_⟩))
                go_ret
                exact ⟨by first | rfl | (simp [errW_none, errW_some] <;> rfl) | (simp only [← hji13]; first | rfl | (simp [errW_none, errW_some] <;> rfl)) | (simp [*, errW_none, errW_some] <;> rfl), by repeat (first | (with_reducible first | exact HB.out | apply below_alloc | apply pw_below_drewN | apply below_drew1 | refine below_set ?_ GE140.out) | exact HB.out)⟩
            · rw [if_neg c11] at H
              exact absurd H (by simp)
          · rw [if_neg c10] at H
            exact absurd H (by simp)
        · rw [if_neg c9] at H
          have c9b0 : decide (x14_1 < (l0_0.length : Int)) = false := decide_eq_false c9
          clear c9
          obtain rfl := Option.some.inj H
          go_wp2
          go_ret
          exact ⟨by first | rfl | (simp [errW_none, errW_some] <;> rfl) | (simp [*, errW_none, errW_some] <;> rfl), by repeat (first | (with_reducible first | exact HB.out | apply below_alloc | apply pw_below_drewN | apply below_drew1 | refine below_set ?_ GE140.out) | exact HB.out)⟩
  · replace c4 := Bool.eq_false_iff.mpr c4
    subst c4
    have H1 : (some false) = some r := by rw [if_neg (show ¬ (false = true) by decide)] at H; exact H
    clear H
    have H := H1
    clear H1
    obtain rfl := Option.some.inj H
    go_enter Try.func99, Try.ntmps99
    go_wp2_with (first | ((with_reducible refine gate_dst (N := 1) rfl ?_); refine box_event ?hg (N := 1) ?hd (cs := #[.slice A0_0 l0_0.length c0_0]) (t := 28) ?hr ?_; (case hd => rfl); (case hg => rfl); (case hr => first | (go_simp; done) | (go_simp; rfl)); intro gb140 hg w27 hbox hb; have n0_ := Aside0.mk (below_step (by repeat (first | (with_reducible first | exact HB.out | apply below_alloc | apply pw_below_drewN | apply below_drew1) | exact HB.out)) hb); have n1_ := Aside0.mk (hbox); have n2_ := Aside0.mk ((by rw [hg]; exact (below_size (by repeat (first | (with_reducible first | exact HB.out | apply below_alloc | apply pw_below_drewN | apply below_drew1) | exact HB.out))) : w.heap.size ≤ gb140)); have n3_ := Aside0.mk ((by rw [hg]; exact (below_size (by repeat (first | (with_reducible first | exact HB.out | apply below_alloc | apply pw_below_drewN | apply below_drew1) | exact HB.out))) : w.heap.size ≤ gb140)); clear HB; have HB := n0_; have BK140 := n1_; have GW140 := n2_; have GE140 := n3_; clear n0_ n1_ n2_ n3_; clear hb hbox hg; have hcz28_0 : w27.cell? ⟨gb140, 0, none⟩ = some (.slice A0_0 l0_0.length c0_0) := (blk_cell BK140.out 0).trans rfl; have hfz28_0 := blk_frozen BK140.out 0) | ((with_reducible refine gate_callee (f := 52) rfl ?_); refine goesL_ (some 8) rfl rfl Try.func52 (by kernel_rfl) rfl #[.agg #[.slice A0_0 l0_0.length c0_0]] rfl (by (try simp only [List.map_toArray, List.map_cons, List.map_nil]); first | done | rfl | (simp only [List.length_drop, List.length_take]; rfl)) ?_; (with_reducible refine (impl_Poset_n.calls _ _ l0_0 t141 _ ?side1 ?side2 A2.out).mono ?_); (case side1 => repeat (first | exact (Kd.C_below HR0_0.out HB.out) | (with_reducible refine Kd.C_alloc ?_ _) | (with_reducible refine Kd.C_drewN ?_ _) | (with_reducible refine Kd.C_drew ?_))); (case side2 => exact HC0_0.out); rintro e w29 ⟨rfl, hb⟩; refine ⟨_, rfl, ?_⟩; have n0_ := Aside0.mk (blk_below (g := gb140) (o := .cells #[.slice A0_0 l0_0.length c0_0] 28 (0, 0)) (by (with_reducible repeat (first | refine blk_drewN ?_ _ | refine blk_drew ?_ | refine blk_alloc ?_ _)); exact BK140.out) hb); have n1_ := Aside0.mk (below_step (by repeat (first | (with_reducible first | exact HB.out | apply below_alloc | apply pw_below_drewN | apply below_drew1 | refine below_set ?_ GE140.out) | exact HB.out)) hb); clear BK140; clear HB; have BK140 := n0_; have HB := n1_; clear n0_ n1_; (try clear hb); (try clear hb2); (try clear hk); (try clear hi)) | ((with_reducible refine gate_callee (f := 59) rfl ?_); refine goesL_ (some 9) rfl rfl Try.func59 (by kernel_rfl) rfl #[.int .i64 t141, .int .i64 1, .int .i64 10] rfl (by (try simp only [List.map_toArray, List.map_cons, List.map_nil]); first | done | rfl | (simp only [List.length_drop, List.length_take]; rfl)) ?_; (with_reducible refine (impl_within.calls t141 1 10 false _ A3.out).mono ?_); rintro e w' ⟨rfl, ⟨nd, rfl⟩⟩; refine ⟨_, rfl, ?_⟩))
    go_ret
    exact ⟨by first | rfl | (simp [errW_none, errW_some] <;> rfl) | (simp [*, errW_none, errW_some] <;> rfl), by repeat (first | (with_reducible first | exact HB.out | apply below_alloc | apply pw_below_drewN | apply below_drew1 | refine below_set ?_ GE140.out) | exact HB.out)⟩
end Go.Proofs.Ytioibkdjcmkcpaa.L
end
section
namespace Go.Proofs.Ytioibkdjcmkcpaa.L
open Go.RowKit Go.Proofs.YtioibkdjcmkcpaaW.PrintWords Go.Proofs.YtioibkdjcmkcpaaW.PrintLast Go.Proofs.YtioibkdjcmkcpaaW.PrintMore
attribute [local go_sem] max2_int min2_int max_two min_two max_three min_three max_four min_four
set_option linter.unusedVariables false
set_option linter.unusedSimpArgs false
def impl_isHigh.f (k : Nat) (l0_0 : List Int) (a1 : Int) : Option (Bool) := (impl_IsPoset.f k l0_0).bind fun t151 => (if t151 = true then ((impl_within.f a1 0 20).bind fun t152 => (some t152)) else (some false))
theorem impl_isHigh.mono : ∀ a0 a1 k, LeO (impl_isHigh.f k a0 a1) (impl_isHigh.f (k + 1) a0 a1) := by
  intro a0 a1 k
  unfold impl_isHigh.f
  repeat' first
      | (with_reducible exact impl_IsPoset.mono _ _)
      | (with_reducible exact LeO.refl _)
      | (with_reducible exact LeO.none _)
      | (with_reducible refine LeO.ite ?_ ?_)
      | (with_reducible refine LeO.bind ?_ (fun _ => ?_))
      | exact impl_IsPoset.mono _ _
      | exact LeO.none _
      | refine LeO.ite ?_ ?_
      | refine LeO.bind ?_ (fun _ => ?_)
set_option maxHeartbeats 8000000 in
set_option maxRecDepth 100000 in
theorem impl_isHigh.calls (k : Nat) (A0_0 : Option Addr) (c0_0 : Nat) (l0_0 : List Int) (a1 : Int) (r : Bool) (w : World) (hr0_0 : Kd.C (Kd.int .i64) w A0_0 l0_0.length l0_0) (hc0_0 : l0_0.length ≤ c0_0) (h : impl_isHigh.f k l0_0 a1 = some r) :
    Calls Try.prog 51 #[.agg #[.slice A0_0 l0_0.length c0_0], .int .i64 a1] w fun e w' => e = .returned (.bool r) ∧ Below w.heap.size w w' := by
  have hu28 := Try.underlying28
  have HR0_0 := Aside0.mk hr0_0
  have HC0_0 := Aside0.mk hc0_0
  clear hr0_0 hc0_0
  have HB := Aside0.mk (Below.refl w.heap.size w)
  have H : ((impl_IsPoset.f k l0_0).bind fun t151 => (if t151 = true then ((impl_within.f a1 0 20).bind fun t152 => (some t152)) else (some false))) = some r := h
  clear h
  replace H := Option.bind_eq_some_iff.mp H
  obtain ⟨t151, A30, H⟩ := H
  replace H : (if t151 = true then ((impl_within.f a1 0 20).bind fun t152 => (some t152)) else (some false)) = some r := H
  have A3 := Aside0.mk A30
  clear A30
  by_cases c4 : t151 = true
  · subst c4
    have H1 : ((impl_within.f a1 0 20).bind fun t152 => (some t152)) = some r := by rw [if_pos rfl] at H; exact H
    clear H
    have H := H1
    clear H1
    replace H := Option.bind_eq_some_iff.mp H
    obtain ⟨t152, A50, H⟩ := H
    replace H : (some t152) = some r := H
    have A5 := Aside0.mk A50
    clear A50
    obtain rfl := Option.some.inj H
    go_enter Try.func51, Try.ntmps51
    go_wp2_with (first | ((with_reducible refine gate_dst (N := 2) rfl ?_); refine box_event ?hg (N := 2) ?hd (cs := #[.slice A0_0 l0_0.length c0_0]) (t := 28) ?hr ?_; (case hd => rfl); (case hg => rfl); (case hr => first | (go_simp; done) | (go_simp; rfl)); intro gb150 hg w6 hbox hb; have n0_ := Aside0.mk (below_step (by repeat (first | (with_reducible first | exact HB.out | apply below_alloc | apply pw_below_drewN | apply below_drew1) | exact HB.out)) hb); have n1_ := Aside0.mk (hbox); have n2_ := Aside0.mk ((by rw [hg]; exact (below_size (by repeat (first | (with_reducible first | exact HB.out | apply below_alloc | apply pw_below_drewN | apply below_drew1) | exact HB.out))) : w.heap.size ≤ gb150)); have n3_ := Aside0.mk ((by rw [hg]; exact (below_size (by repeat (first | (with_reducible first | exact HB.out | apply below_alloc | apply pw_below_drewN | apply below_drew1) | exact HB.out))) : w.heap.size ≤ gb150)); clear HB; have HB := n0_; have BK150 := n1_; have GW150 := n2_; have GE150 := n3_; clear n0_ n1_ n2_ n3_; clear hb hbox hg; have hcz7_0 : w6.cell? ⟨gb150, 0, none⟩ = some (.slice A0_0 l0_0.length c0_0) := (blk_cell BK150.out 0).trans rfl; have hfz7_0 := blk_frozen BK150.out 0) | ((with_reducible refine gate_callee (f := 99) rfl ?_); refine goesL_ (some 6) rfl rfl Try.func99 (by kernel_rfl) rfl #[.agg #[.slice A0_0 l0_0.length c0_0]] rfl (by (try simp only [List.map_toArray, List.map_cons, List.map_nil]); first | done | rfl | (simp only [List.length_drop, List.length_take]; rfl)) ?_; (with_reducible refine (impl_IsPoset.calls k _ _ l0_0 true _ ?side1 ?side2 A3.out).mono ?_); (case side1 => repeat (first | exact (Kd.C_below HR0_0.out HB.out) | (with_reducible refine Kd.C_alloc ?_ _) | (with_reducible refine Kd.C_drewN ?_ _) | (with_reducible refine Kd.C_drew ?_))); (case side2 => exact HC0_0.out); rintro e w8 ⟨rfl, hb⟩; refine ⟨_, rfl, ?_⟩; have n0_ := Aside0.mk (blk_below (g := gb150) (o := .cells #[.slice A0_0 l0_0.length c0_0] 28 (0, 0)) (by (with_reducible repeat (first | refine blk_drewN ?_ _ | refine blk_drew ?_ | refine blk_alloc ?_ _)); exact BK150.out) hb); have n1_ := Aside0.mk (below_step (by repeat (first | (with_reducible first | exact HB.out | apply below_alloc | apply pw_below_drewN | apply below_drew1 | refine below_set ?_ GE150.out) | exact HB.out)) hb); clear BK150; clear HB; have BK150 := n0_; have HB := n1_; clear n0_ n1_; (try clear hb); (try clear hb2); (try clear hk); (try clear hi)) | (go_at_call 59; (with_reducible refine (impl_within.calls a1 0 20 t152 _ A5.out).mono ?_); rintro e w' ⟨rfl, ⟨nd, rfl⟩⟩))
    go_ret
    exact ⟨by first | rfl | (simp [errW_none, errW_some] <;> rfl) | (simp [*, errW_none, errW_some] <;> rfl), by repeat (first | (with_reducible first | exact HB.out | apply below_alloc | apply pw_below_drewN | apply below_drew1 | refine below_set ?_ GE150.out) | exact HB.out)⟩
  · replace c4 := Bool.eq_false_iff.mpr c4
    subst c4
    have H1 : (some false) = some r := by rw [if_neg (show ¬ (false = true) by decide)] at H; exact H
    clear H
    have H := H1
    clear H1
    obtain rfl := Option.some.inj H
    go_enter Try.func51, Try.ntmps51
    go_wp2_with (first | ((with_reducible refine gate_dst (N := 2) rfl ?_); refine box_event ?hg (N := 2) ?hd (cs := #[.slice A0_0 l0_0.length c0_0]) (t := 28) ?hr ?_; (case hd => rfl); (case hg => rfl); (case hr => first | (go_simp; done) | (go_simp; rfl)); intro gb150 hg w9 hbox hb; have n0_ := Aside0.mk (below_step (by repeat (first | (with_reducible first | exact HB.out | apply below_alloc | apply pw_below_drewN | apply below_drew1) | exact HB.out)) hb); have n1_ := Aside0.mk (hbox); have n2_ := Aside0.mk ((by rw [hg]; exact (below_size (by repeat (first | (with_reducible first | exact HB.out | apply below_alloc | apply pw_below_drewN | apply below_drew1) | exact HB.out))) : w.heap.size ≤ gb150)); have n3_ := Aside0.mk ((by rw [hg]; exact (below_size (by repeat (first | (with_reducible first | exact HB.out | apply below_alloc | apply pw_below_drewN | apply below_drew1) | exact HB.out))) : w.heap.size ≤ gb150)); clear HB; have HB := n0_; have BK150 := n1_; have GW150 := n2_; have GE150 := n3_; clear n0_ n1_ n2_ n3_; clear hb hbox hg; have hcz10_0 : w9.cell? ⟨gb150, 0, none⟩ = some (.slice A0_0 l0_0.length c0_0) := (blk_cell BK150.out 0).trans rfl; have hfz10_0 := blk_frozen BK150.out 0) | ((with_reducible refine gate_callee (f := 99) rfl ?_); refine goesL_ (some 6) rfl rfl Try.func99 (by kernel_rfl) rfl #[.agg #[.slice A0_0 l0_0.length c0_0]] rfl (by (try simp only [List.map_toArray, List.map_cons, List.map_nil]); first | done | rfl | (simp only [List.length_drop, List.length_take]; rfl)) ?_; (with_reducible refine (impl_IsPoset.calls k _ _ l0_0 false _ ?side1 ?side2 A3.out).mono ?_); (case side1 => repeat (first | exact (Kd.C_below HR0_0.out HB.out) | (with_reducible refine Kd.C_alloc ?_ _) | (with_reducible refine Kd.C_drewN ?_ _) | (with_reducible refine Kd.C_drew ?_))); (case side2 => exact HC0_0.out); rintro e w11 ⟨rfl, hb⟩; refine ⟨_, rfl, ?_⟩; have n0_ := Aside0.mk (blk_below (g := gb150) (o := .cells #[.slice A0_0 l0_0.length c0_0] 28 (0, 0)) (by (with_reducible repeat (first | refine blk_drewN ?_ _ | refine blk_drew ?_ | refine blk_alloc ?_ _)); exact BK150.out) hb); have n1_ := Aside0.mk (below_step (by repeat (first | (with_reducible first | exact HB.out | apply below_alloc | apply pw_below_drewN | apply below_drew1 | refine below_set ?_ GE150.out) | exact HB.out)) hb); clear BK150; clear HB; have BK150 := n0_; have HB := n1_; clear n0_ n1_; (try clear hb); (try clear hb2); (try clear hk); (try clear hi)))
    go_ret
    exact ⟨by first | rfl | (simp [errW_none, errW_some] <;> rfl) | (simp [*, errW_none, errW_some] <;> rfl), by repeat (first | (with_reducible first | exact HB.out | apply below_alloc | apply pw_below_drewN | apply below_drew1 | refine below_set ?_ GE150.out) | exact HB.out)⟩
end Go.Proofs.Ytioibkdjcmkcpaa.L
end
section
namespace Go.Proofs.Ytioibkdjcmkcpaa.L
open Go.RowKit Go.Proofs.YtioibkdjcmkcpaaW.PrintWords Go.Proofs.YtioibkdjcmkcpaaW.PrintLast Go.Proofs.YtioibkdjcmkcpaaW.PrintMore
attribute [local go_sem] max2_int min2_int max_two min_two max_three min_three max_four min_four
set_option linter.unusedVariables false
set_option linter.unusedSimpArgs false
def impl_Poset_close.l0 : Nat → Int → List Int → Int → Int → List Int → Option (Int)
  | 0, _, _, _, _, _ => none
  | k + 1, x5, x10, x11, x12, x275000 => if x12 < x11 then (if 0 ≤ x12 then (if x12 < (x10.length : Int) then (if 0 ≤ (rd x10 x12) then (if (rd x10 x12) < (x275000.length : Int) then (impl_Poset_close.l0 k (Go.bits .or .i64 x5 (rd x275000 (rd x10 x12))) x10 x11 (wrap64 (x12 + 1)) x275000) else (none)) else (none)) else (none)) else (none)) else (some x5)
def impl_Poset_close.f (k : Nat) (l0_0 : List Int) (a1 : Int) : Option (Int) := (impl_items.f k a1).bind fun t275 => (impl_Poset_close.l0 k a1 t275 (t275.length : Int) 0 l0_0)
theorem impl_Poset_close.mono_l : ∀ k, (∀ y0 y1 y2 y3 y4, LeO (impl_Poset_close.l0 k y0 y1 y2 y3 y4) (impl_Poset_close.l0 (k + 1) y0 y1 y2 y3 y4))
  | 0 => fun _ _ _ _ _ r h => by simp [impl_Poset_close.l0] at h
  | k + 1 => by
    have ih0 := impl_Poset_close.mono_l k
    · intro y0 y1 y2 y3 y4
      unfold impl_Poset_close.l0
      repeat' first
      | (with_reducible exact ih0 _ _ _ _ _)
      | (with_reducible exact impl_items.mono _ _)
      | (with_reducible exact LeO.refl _)
      | (with_reducible exact LeO.none _)
      | (with_reducible refine LeO.ite ?_ ?_)
      | (with_reducible refine LeO.bind ?_ (fun _ => ?_))
      | exact ih0 _ _ _ _ _
      | exact impl_items.mono _ _
      | exact LeO.none _
      | refine LeO.ite ?_ ?_
      | refine LeO.bind ?_ (fun _ => ?_)
theorem impl_Poset_close.mono : ∀ a0 a1 k, LeO (impl_Poset_close.f k a0 a1) (impl_Poset_close.f (k + 1) a0 a1) := by
  intro a0 a1 k
  have ih0 := impl_Poset_close.mono_l k
  unfold impl_Poset_close.f
  repeat' first
      | (with_reducible exact ih0 _ _ _ _ _)
      | (with_reducible exact impl_items.mono _ _)
      | (with_reducible exact LeO.refl _)
      | (with_reducible exact LeO.none _)
      | (with_reducible refine LeO.ite ?_ ?_)
      | (with_reducible refine LeO.bind ?_ (fun _ => ?_))
      | exact ih0 _ _ _ _ _
      | exact impl_items.mono _ _
      | exact LeO.none _
      | refine LeO.ite ?_ ?_
      | refine LeO.bind ?_ (fun _ => ?_)
set_option maxHeartbeats 8000000 in
set_option maxRecDepth 100000 in
theorem impl_Poset_close.calls (k : Nat) (A0_0 : Option Addr) (c0_0 : Nat) (l0_0 : List Int) (a1 : Int) (r : Int) (w : World) (hr0_0 : Kd.C (Kd.int .i64) w A0_0 l0_0.length l0_0) (hc0_0 : l0_0.length ≤ c0_0) (h : impl_Poset_close.f k l0_0 a1 = some r) :
    Calls Try.prog 109 #[.agg #[.slice A0_0 l0_0.length c0_0], .int .i64 a1] w fun e w' => e = .returned (.int .i64 r) ∧ Below w.heap.size w w' := by
  have hu28 := Try.underlying28
  have HR0_0 := Aside0.mk hr0_0
  have HC0_0 := Aside0.mk hc0_0
  clear hr0_0 hc0_0
  have HB := Aside0.mk (Below.refl w.heap.size w)
  have H : ((impl_items.f k a1).bind fun t275 => (impl_Poset_close.l0 k a1 t275 (t275.length : Int) 0 l0_0)) = some r := h
  clear h
  replace H := Option.bind_eq_some_iff.mp H
  obtain ⟨t275, A30, H⟩ := H
  replace H : (impl_Poset_close.l0 k a1 t275 (t275.length : Int) 0 l0_0) = some r := H
  have A3 := Aside0.mk A30
  clear A30
  have H' := Aside0.mk H
  clear H
  go_enter Try.func109, Try.ntmps109
  go_wp2_with (first | ((with_reducible refine gate_dst (N := 2) rfl ?_); refine box_event ?hg (N := 2) ?hd (cs := #[.slice A0_0 l0_0.length c0_0]) (t := 28) ?hr ?_; (case hd => rfl); (case hg => rfl); (case hr => first | (go_simp; done) | (go_simp; rfl)); intro gb274 hg w4 hbox hb; have n0_ := Aside0.mk (below_step (by repeat (first | (with_reducible first | exact HB.out | apply below_alloc | apply pw_below_drewN | apply below_drew1) | exact HB.out)) hb); have n1_ := Aside0.mk (hbox); have n2_ := Aside0.mk ((by rw [hg]; exact (below_size (by repeat (first | (with_reducible first | exact HB.out | apply below_alloc | apply pw_below_drewN | apply below_drew1) | exact HB.out))) : w.heap.size ≤ gb274)); have n3_ := Aside0.mk ((by rw [hg]; exact (below_size (by repeat (first | (with_reducible first | exact HB.out | apply below_alloc | apply pw_below_drewN | apply below_drew1) | exact HB.out))) : w.heap.size ≤ gb274)); clear HB; have HB := n0_; have BK274 := n1_; have GW274 := n2_; have GE274 := n3_; clear n0_ n1_ n2_ n3_; clear hb hbox hg) | ((with_reducible refine gate_callee (f := 100) rfl ?_); refine goesL_ (some 10) rfl rfl Try.func100 (by kernel_rfl) rfl #[.int .i64 a1] rfl (by (try simp only [List.map_toArray, List.map_cons, List.map_nil]); first | done | rfl | (simp only [List.length_drop, List.length_take]; rfl)) ?_; (with_reducible refine (impl_items.calls k a1 t275 _ A3.out).mono ?_); rintro e w5 ⟨v276, rfl, ho0, hb⟩; refine ⟨_, rfl, ?_⟩; have n0_ := Aside0.mk (Kd.R_lower ho0 (below_size (by repeat (first | (with_reducible first | exact HB.out | apply below_alloc | apply pw_below_drewN | apply below_drew1 | refine below_set ?_ GE274.out) | exact HB.out)))); have n1_ := Aside0.mk (blk_below (g := gb274) (o := .cells #[.slice A0_0 l0_0.length c0_0] 28 (0, 0)) (by (with_reducible repeat (first | refine blk_drewN ?_ _ | refine blk_drew ?_ | refine blk_alloc ?_ _)); exact BK274.out) hb); have n2_ := Aside0.mk (below_step (by repeat (first | (with_reducible first | exact HB.out | apply below_alloc | apply pw_below_drewN | apply below_drew1 | refine below_set ?_ GE274.out) | exact HB.out)) hb); clear BK274; clear HB; have HO277 := n0_; have BK274 := n1_; have HB := n2_; clear n0_ n1_ n2_; (try clear hb); (try clear hb2); (try clear hk); (try clear hi); (try clear ho0); obtain ⟨Ao6, co6, eo6⟩ := Kd.R_slice HO277.out; subst eo6))
  go_loopg [5, 12] k (fun kq v5 v12 w' => ∃ (x5_1 : Int) (x12_1 : Int), v5 = .int .i64 x5_1 ∧ v12 = .int .i64 x12_1 ∧ Aside0 (impl_Poset_close.l0 kq x5_1 t275 (t275.length : Int) x12_1 l0_0 = some r) ∧ Aside0 (kq ≤ k) ∧ Aside0 (Kd.R (Kd.int .i64) 3 w' w.heap.size (fun _ => True) (.slice Ao6 t275.length co6) t275) ∧ Aside0 (w'.heap[gb274]? = some (.cells #[(.slice A0_0 l0_0.length c0_0)] 28 (0, 0))) ∧ Aside0 (Below w.heap.size w w'))
  case atStart => exact ⟨(a1), (0), (by first | rfl | (simp; done) | (simp [*]; done)), (by first | rfl | (simp; done) | (simp [*]; done)), H', ⟨Nat.le_refl _⟩, ⟨by (with_reducible repeat (first | apply Kd.R_alloc | apply Kd.R_drewN | apply Kd.R_drew)); exact HO277.out⟩, ⟨by (with_reducible repeat (first | refine blk_drewN ?_ _ | refine blk_drew ?_ | refine blk_alloc ?_ _)); exact BK274.out⟩, ⟨by repeat (first | (with_reducible first | exact HB.out | apply below_alloc | apply pw_below_drewN | apply below_drew1 | refine below_set ?_ GE274.out) | exact HB.out)⟩⟩
  case round =>
    clear H'
    try clear c1
    try clear p2
    obtain ⟨x5_1, x12_1, rfl, rfl, HA, HK1, HO_10, BK274, HB⟩ := hrel
    cases gk with
    | zero => exact absurd HA.out (by simp [impl_Poset_close.l0])
    | succ k1 =>
      have H := HA.out
      clear HA
      simp only [impl_Poset_close.l0] at H
      by_cases c7 : x12_1 < (t275.length : Int)
      · rw [if_pos c7] at H
        have c7b0 : decide (x12_1 < (t275.length : Int)) = true := decide_eq_true c7
        clear c7
        by_cases c8 : 0 ≤ x12_1
        · rw [if_pos c8] at H
          have c8b0 : decide (0 ≤ x12_1) = true := decide_eq_true c8
          clear c8
          by_cases c9 : x12_1 < (t275.length : Int)
          · rw [if_pos c9] at H
            have c9b0 : decide (x12_1 < (t275.length : Int)) = true := decide_eq_true c9
            clear c9
            by_cases c10 : 0 ≤ (rd t275 x12_1)
            · rw [if_pos c10] at H
              have c10b0 : decide (0 ≤ (rd t275 x12_1)) = true := decide_eq_true c10
              clear c10
              by_cases c11 : (rd t275 x12_1) < (l0_0.length : Int)
              · rw [if_pos c11] at H
                have c11b0 : decide ((rd t275 x12_1) < (l0_0.length : Int)) = true := decide_eq_true c11
                clear c11
                have H' := Aside0.mk H
                clear H
                have p278 : 0 ≤ (x12_1 : Int) := of_decide_eq_true (by first | (with_reducible assumption) | assumption)
                have q278 : x12_1 < (t275.length : Int) := of_decide_eq_true (by first | (with_reducible assumption) | assumption)
                obtain ⟨ad278, e278, hx278_0⟩ := Kd.at_int (Kd.R_reads' HO_10.out).2.2 x12_1 p278 q278
                cases e278
                replace p278 := eq_true p278
                replace q278 := eq_true q278
                have hcz12_0 : wr.cell? ⟨gb274, 0, none⟩ = some (.slice A0_0 l0_0.length c0_0) := (blk_cell BK274.out 0).trans rfl
                have hfz12_0 := blk_frozen BK274.out 0
                have p279 : 0 ≤ ((rd t275 x12_1) : Int) := of_decide_eq_true (by first | (with_reducible assumption) | assumption)
                have q279 : (rd t275 x12_1) < (l0_0.length : Int) := of_decide_eq_true (by first | (with_reducible assumption) | assumption)
                obtain ⟨ad279, e279, hx279_0⟩ := Kd.at_int HR0_0.out (rd t275 x12_1) p279 q279
                cases e279
                replace hx279_0 := (HB.out.cell (World.block_lt_of_cell? w _ hx279_0)).trans hx279_0
                replace p279 := eq_true p279
                replace q279 := eq_true q279
                go_wp2
                go_roundg k1
                case measure => have := HK1.out; omega
                case rel => exact ⟨(Go.bits .or .i64 x5_1 (rd l0_0 (rd t275 x12_1))), (wrap64 (x12_1 + 1)), (by first | rfl | (simp; done) | (simp [*]; done)), (by first | rfl | (simp; done) | (simp [*]; done)), H', ⟨by have := HK1.out; omega⟩, ⟨by (with_reducible repeat (first | apply Kd.R_alloc | apply Kd.R_drewN | apply Kd.R_drew)); exact HO_10.out⟩, ⟨by (with_reducible repeat (first | refine blk_drewN ?_ _ | refine blk_drew ?_ | refine blk_alloc ?_ _)); exact BK274.out⟩, ⟨by repeat (first | (with_reducible first | exact HB.out | apply below_alloc | apply pw_below_drewN | apply below_drew1 | refine below_set ?_ GE274.out) | exact HB.out)⟩⟩
              · rw [if_neg c11] at H
                exact absurd H (by simp)
            · rw [if_neg c10] at H
              exact absurd H (by simp)
          · rw [if_neg c9] at H
            exact absurd H (by simp)
        · rw [if_neg c8] at H
          exact absurd H (by simp)
      · rw [if_neg c7] at H
        have c7b0 : decide (x12_1 < (t275.length : Int)) = false := decide_eq_false c7
        clear c7
        obtain rfl := Option.some.inj H
        go_wp2
        go_ret
        exact ⟨by first | rfl | (simp [errW_none, errW_some] <;> rfl) | (simp [*, errW_none, errW_some] <;> rfl), by repeat (first | (with_reducible first | exact HB.out | apply below_alloc | apply pw_below_drewN | apply below_drew1 | refine below_set ?_ GE274.out) | exact HB.out)⟩
end Go.Proofs.Ytioibkdjcmkcpaa.L
end
section
namespace Go.Proofs.Ytioibkdjcmkcpaa.L
open Go.RowKit Go.Proofs.YtioibkdjcmkcpaaW.PrintWords Go.Proofs.YtioibkdjcmkcpaaW.PrintLast Go.Proofs.YtioibkdjcmkcpaaW.PrintMore
attribute [local go_sem] max2_int min2_int max_two min_two max_three min_three max_four min_four
set_option linter.unusedVariables false
set_option linter.unusedSimpArgs false
class Fn1 where
  p : Int → Option Bool
def impl_Poset_ideals_1.f [Fn1] (a0 : Int) : Option Bool := Fn1.p a0
end Go.Proofs.Ytioibkdjcmkcpaa.L
end
section
namespace Go.Proofs.Ytioibkdjcmkcpaa.L
open Go.RowKit Go.Proofs.YtioibkdjcmkcpaaW.PrintWords Go.Proofs.YtioibkdjcmkcpaaW.PrintLast Go.Proofs.YtioibkdjcmkcpaaW.PrintMore
attribute [local go_sem] max2_int min2_int max_two min_two max_three min_three max_four min_four
set_option linter.unusedVariables false
set_option linter.unusedSimpArgs false
def impl_Poset_all.f (l0_0 : List Int) : Option (Int) := (impl_Poset_n.f l0_0).bind fun t281 => (if 0 ≤ t281 then (some (wrap64 ((shl .i64 1 t281) - 1))) else (none))
set_option maxHeartbeats 8000000 in
set_option maxRecDepth 100000 in
theorem impl_Poset_all.calls (A0_0 : Option Addr) (c0_0 : Nat) (l0_0 : List Int) (r : Int) (w : World) (hr0_0 : Kd.C (Kd.int .i64) w A0_0 l0_0.length l0_0) (hc0_0 : l0_0.length ≤ c0_0) (h : impl_Poset_all.f l0_0 = some r) :
    Calls Try.prog 112 #[.agg #[.slice A0_0 l0_0.length c0_0]] w fun e w' => e = .returned (.int .i64 r) ∧ Below w.heap.size w w' := by
  have hu28 := Try.underlying28
  have HR0_0 := Aside0.mk hr0_0
  have HC0_0 := Aside0.mk hc0_0
  clear hr0_0 hc0_0
  have HB := Aside0.mk (Below.refl w.heap.size w)
  have H : ((impl_Poset_n.f l0_0).bind fun t281 => (if 0 ≤ t281 then (some (wrap64 ((shl .i64 1 t281) - 1))) else (none))) = some r := h
  clear h
  replace H := Option.bind_eq_some_iff.mp H
  obtain ⟨t281, A20, H⟩ := H
  replace H : (if 0 ≤ t281 then (some (wrap64 ((shl .i64 1 t281) - 1))) else (none)) = some r := H
  have A2 := Aside0.mk A20
  clear A20
  by_cases c3 : 0 ≤ t281
  · rw [if_pos c3] at H
    have c3b0 := eq_true c3
    have c3b1 : decide (0 ≤ t281) = true := decide_eq_true c3
    clear c3
    obtain ⟨ji4, hji4⟩ : ∃ j_ : Int, (shl .i64 1 t281) = j_ := ⟨_, rfl⟩
    replace H : (some (wrap64 ((ji4) - 1))) = some r := by first | (rw [hji4] at H; exact H) | (simp only [hji4] at H ⊢; exact H)
    (try rw [hji4] at A2)
    have hji4_ : (IntKind.i64.wrap (1 * 2 ^ min t281.toNat 64)) = ji4 := hji4
    have hji4z : t281 ≤ 64 → (IntKind.i64.wrap (1 * 2 ^ t281.toNat)) = ji4 := shl_small hji4
    have hji4u : (IntKind.i64.wrap (2 ^ min t281.toNat 64)) = ji4 := by have h_ := hji4_; rw [Int.one_mul] at h_; exact h_
    have hji4v : t281 ≤ 64 → (IntKind.i64.wrap (2 ^ t281.toNat)) = ji4 := fun hle_ => by have h_ := hji4z hle_; rw [Int.one_mul] at h_; exact h_
    have hji4y : (wrap64 (1 * 2 ^ min t281.toNat 64)) = ji4 := (i64_w _).symm.trans hji4_
    have hji4x : t281 ≤ 64 → (wrap64 (1 * 2 ^ t281.toNat)) = ji4 := fun h_ => (i64_w _).symm.trans (hji4z h_)
    obtain rfl := Option.some.inj H
    go_enter Try.func112, Try.ntmps112
    go_wp2_with (first | ((with_reducible refine gate_dst (N := 1) rfl ?_); refine box_event ?hg (N := 1) ?hd (cs := #[.slice A0_0 l0_0.length c0_0]) (t := 28) ?hr ?_; (case hd => rfl); (case hg => rfl); (case hr => first | (go_simp; done) | (go_simp; rfl)); intro gb280 hg w5 hbox hb; have n0_ := Aside0.mk (below_step (by repeat (first | (with_reducible first | exact HB.out | apply below_alloc | apply pw_below_drewN | apply below_drew1) | exact HB.out)) hb); have n1_ := Aside0.mk (hbox); have n2_ := Aside0.mk ((by rw [hg]; exact (below_size (by repeat (first | (with_reducible first | exact HB.out | apply below_alloc | apply pw_below_drewN | apply below_drew1) | exact HB.out))) : w.heap.size ≤ gb280)); have n3_ := Aside0.mk ((by rw [hg]; exact (below_size (by repeat (first | (with_reducible first | exact HB.out | apply below_alloc | apply pw_below_drewN | apply below_drew1) | exact HB.out))) : w.heap.size ≤ gb280)); clear HB; have HB := n0_; have BK280 := n1_; have GW280 := n2_; have GE280 := n3_; clear n0_ n1_ n2_ n3_; clear hb hbox hg; have hcz6_0 : w5.cell? ⟨gb280, 0, none⟩ = some (.slice A0_0 l0_0.length c0_0) := (blk_cell BK280.out 0).trans rfl; have hfz6_0 := blk_frozen BK280.out 0) | ((with_reducible refine gate_callee (f := 52) rfl ?_); refine goesL_ (some 4) rfl rfl Try.func52 (by kernel_rfl) rfl #[.agg #[.slice A0_0 l0_0.length c0_0]] rfl (by (try simp only [List.map_toArray, List.map_cons, List.map_nil]); first | done | rfl | (simp only [List.length_drop, List.length_take]; rfl)) ?_; (with_reducible refine (impl_Poset_n.calls _ _ l0_0 t281 _ ?side1 ?side2 A2.out).mono ?_); (case side1 => repeat (first | exact (Kd.C_below HR0_0.out HB.out) | (with_reducible refine Kd.C_alloc ?_ _) | (with_reducible refine Kd.C_drewN ?_ _) | (with_reducible refine Kd.C_drew ?_))); (case side2 => exact HC0_0.out); rintro e w7 ⟨rfl, hb⟩; refine ⟨_, rfl, ?_⟩; have n0_ := Aside0.mk (blk_below (g := gb280) (o := .cells #[.slice A0_0 l0_0.length c0_0] 28 (0, 0)) (by (with_reducible repeat (first | refine blk_drewN ?_ _ | refine blk_drew ?_ | refine blk_alloc ?_ _)); exact BK280.out) hb); have n1_ := Aside0.mk (below_step (by repeat (first | (with_reducible first | exact HB.out | apply below_alloc | apply pw_below_drewN | apply below_drew1 | refine below_set ?_ GE280.out) | exact HB.out)) hb); clear BK280; clear HB; have BK280 := n0_; have HB := n1_; clear n0_ n1_; (try clear hb); (try clear hb2); (try clear hk); (try clear hi)))
    go_ret
    exact ⟨by first | rfl | (simp [errW_none, errW_some] <;> rfl) | (simp only [← hji4]; first | rfl | (simp [errW_none, errW_some] <;> rfl)) | (simp [*, errW_none, errW_some] <;> rfl), by repeat (first | (with_reducible first | exact HB.out | apply below_alloc | apply pw_below_drewN | apply below_drew1 | refine below_set ?_ GE280.out) | exact HB.out)⟩
  · rw [if_neg c3] at H
    exact absurd H (by simp)
end Go.Proofs.Ytioibkdjcmkcpaa.L
end
section
namespace Go.Proofs.Ytioibkdjcmkcpaa.L
open Go.RowKit Go.Proofs.YtioibkdjcmkcpaaW.PrintWords Go.Proofs.YtioibkdjcmkcpaaW.PrintLast Go.Proofs.YtioibkdjcmkcpaaW.PrintMore
attribute [local go_sem] max2_int min2_int max_two min_two max_three min_three max_four min_four
set_option linter.unusedVariables false
variable [Fn1]
set_option linter.unusedSimpArgs false
def impl_Poset_sets.l0 : Nat → List Int → Int → Int → Option (List Int)
  | 0, _, _, _ => none
  | k + 1, x5, x10, x11 => if x11 < x10 then ((impl_Poset_ideals_1.f x11).bind fun t287 => (if t287 = true then (if x5.length < 17592186044416 then (impl_Poset_sets.l0 k (x5 ++ [x11]) x10 (wrap64 (x11 + 1))) else (none)) else (impl_Poset_sets.l0 k x5 x10 (wrap64 (x11 + 1))))) else (some x5)
def impl_Poset_sets.f (k : Nat) (l0_0 : List Int) (a1 : Int) : Option (List Int) := (impl_Poset_all.f l0_0).bind fun t286 => (impl_Poset_sets.l0 k (([] : List Int)) (wrap64 (t286 + 1)) 0)
theorem impl_Poset_sets.mono_l : ∀ k, (∀ y0 y1 y2, LeO (impl_Poset_sets.l0 k y0 y1 y2) (impl_Poset_sets.l0 (k + 1) y0 y1 y2))
  | 0 => fun _ _ _ r h => by simp [impl_Poset_sets.l0] at h
  | k + 1 => by
    have ih0 := impl_Poset_sets.mono_l k
    · intro y0 y1 y2
      unfold impl_Poset_sets.l0
      repeat' first
      | (with_reducible exact ih0 _ _ _)
      | (with_reducible exact LeO.refl _)
      | (with_reducible exact LeO.none _)
      | (with_reducible refine LeO.ite ?_ ?_)
      | (with_reducible refine LeO.bind ?_ (fun _ => ?_))
      | exact ih0 _ _ _
      | exact LeO.none _
      | refine LeO.ite ?_ ?_
      | refine LeO.bind ?_ (fun _ => ?_)
theorem impl_Poset_sets.mono : ∀ a0 a1 k, LeO (impl_Poset_sets.f k a0 a1) (impl_Poset_sets.f (k + 1) a0 a1) := by
  intro a0 a1 k
  have ih0 := impl_Poset_sets.mono_l k
  unfold impl_Poset_sets.f
  repeat' first
      | (with_reducible exact ih0 _ _ _)
      | (with_reducible exact LeO.refl _)
      | (with_reducible exact LeO.none _)
      | (with_reducible refine LeO.ite ?_ ?_)
      | (with_reducible refine LeO.bind ?_ (fun _ => ?_))
      | exact ih0 _ _ _
      | exact LeO.none _
      | refine LeO.ite ?_ ?_
      | refine LeO.bind ?_ (fun _ => ?_)
set_option maxHeartbeats 8000000 in
set_option maxRecDepth 100000 in
open Go.Proofs.Ytioibkdjcmkcpaa.X in
theorem impl_Poset_sets.calls (gF : Nat) (lbF : Array Value) (eg : ∀ args w, (callFunc gF args).run Try.prog w = .ok (.enter gF args) w) (k : Nat) (A0_0 : Option Addr) (c0_0 : Nat) (l0_0 : List Int) (a1 : Int) (r : List Int) (w : World) (hr0_0 : Kd.C (Kd.int .i64) w A0_0 l0_0.length l0_0) (hc0_0 : l0_0.length ≤ c0_0) (hpF : ∀ x0_ b, impl_Poset_ideals_1.f x0_ = some b → Fv Try.prog gF lbF #[.int .i64 x0_] (.bool b) w) (h : impl_Poset_sets.f k l0_0 a1 = some r) :
    Calls Try.prog 107 #[.agg #[.slice A0_0 l0_0.length c0_0], .func (.func gF) #[] lbF] w fun e w' => ∃ v0_ : Value, e = .returned (v0_) ∧ Kd.R (Kd.int .i64) 3 w' w.heap.size (fun _ => True) v0_ r ∧ Below w.heap.size w w' := by
  have HP := Aside0.mk hpF
  clear hpF
  have hu28 := Try.underlying28
  have HR0_0 := Aside0.mk hr0_0
  have HC0_0 := Aside0.mk hc0_0
  clear hr0_0 hc0_0
  have HB := Aside0.mk (Below.refl w.heap.size w)
  have H : ((impl_Poset_all.f l0_0).bind fun t286 => (impl_Poset_sets.l0 k (([] : List Int)) (wrap64 (t286 + 1)) 0)) = some r := h
  clear h
  obtain ⟨y283, hy283⟩ : ∃ y_ : List Int, y_ = (([] : List Int)) := ⟨_, rfl⟩
  replace H : ((impl_Poset_all.f l0_0).bind fun t286 => (impl_Poset_sets.l0 k y283 (wrap64 (t286 + 1)) 0)) = some r := by first | (rw [hy283]; with_reducible exact H) | (have H2_ := (Option.bind_some _ _).symm.trans H; rw [hy283]; with_reducible exact H2_) | (have H2_ := (Option.bind_some _ _).symm.trans H; with_reducible exact H2_) | with_reducible exact H | (rw [hy283]; exact H) | exact H
  have Ny283 := Aside0.mk hy283
  clear hy283
  replace H := Option.bind_eq_some_iff.mp H
  obtain ⟨t286, A30, H⟩ := H
  replace H : (impl_Poset_sets.l0 k y283 (wrap64 (t286 + 1)) 0) = some r := H
  have A3 := Aside0.mk A30
  clear A30
  have H' := Aside0.mk H
  clear H
  go_enter Try.func107, Try.ntmps107
  go_wp2_with (first | ((with_reducible refine gate_dst (N := 2) rfl ?_); refine box_event ?hg (N := 2) ?hd (cs := #[.slice A0_0 l0_0.length c0_0]) (t := 28) ?hr ?_; (case hd => rfl); (case hg => rfl); (case hr => first | (go_simp; done) | (go_simp; rfl)); intro gb282 hg w4 hbox hb; have n0_ := Aside0.mk (below_step (by repeat (first | (with_reducible first | exact HB.out | apply below_alloc | apply pw_below_drewN | apply below_drew1) | exact HB.out)) hb); have n1_ := Aside0.mk (hbox); have n2_ := Aside0.mk ((by rw [hg]; exact (below_size (by repeat (first | (with_reducible first | exact HB.out | apply below_alloc | apply pw_below_drewN | apply below_drew1) | exact HB.out))) : w.heap.size ≤ gb282)); have n3_ := Aside0.mk ((by rw [hg]; exact (below_size (by repeat (first | (with_reducible first | exact HB.out | apply below_alloc | apply pw_below_drewN | apply below_drew1) | exact HB.out))) : w.heap.size ≤ gb282)); clear HB; have HB := n0_; have BK282 := n1_; have GW282 := n2_; have GE282 := n3_; clear n0_ n1_ n2_ n3_; clear hb hbox hg) | ((with_reducible refine gate_dst (N := 7) rfl ?_); refine Kd.R_lit (Kd.int .i64) _ 3 ?hg (N := 7) ?hd (xs := ([] : List Int)) (inner := []) (ok := fun _ => True) (okp := fun _ => True) ?hr ?hp (fun _ hk => hk) trivial (Below.refl _ _) (Nat.le_refl _) (by simp) ?_; (case hd => rfl); (case hg => rfl); (case hr => first | (go_simp; done) | (go_simp; rfl)); (case hp => exact (Reps.none _ _)); intro v284 w5 ho6 hb hg_ hnew_; clear hg_ hnew_; (first | rw [← Ny283.out] at ho6 | (simp only [Int.reduceToNat] at ho6; rw [← Ny283.out] at ho6)); have n0_ := Aside0.mk (Kd.R_lower ho6 (below_size (by repeat (first | (with_reducible first | exact HB.out | apply below_alloc | apply pw_below_drewN | apply below_drew1 | refine below_set ?_ GE282.out) | exact HB.out)))); have n1_ := Aside0.mk (blk_below (g := gb282) (o := .cells #[.slice A0_0 l0_0.length c0_0] 28 (0, 0)) (by (with_reducible repeat (first | refine blk_drewN ?_ _ | refine blk_drew ?_ | refine blk_alloc ?_ _)); exact BK282.out) hb); have n2_ := Aside0.mk (below_step (by repeat (first | (with_reducible first | exact HB.out | apply below_alloc | apply pw_below_drewN | apply below_drew1 | refine below_set ?_ GE282.out) | exact HB.out)) hb); clear BK282; clear HB; have HO285 := n0_; have BK282 := n1_; have HB := n2_; clear n0_ n1_ n2_; clear hb ho6; have hcz7_0 : w5.cell? ⟨gb282, 0, none⟩ = some (.slice A0_0 l0_0.length c0_0) := (blk_cell BK282.out 0).trans rfl; have hfz7_0 := blk_frozen BK282.out 0) | ((with_reducible refine gate_callee (f := 112) rfl ?_); refine goesL_ (some 9) rfl rfl Try.func112 (by kernel_rfl) rfl #[.agg #[.slice A0_0 l0_0.length c0_0]] rfl (by (try simp only [List.map_toArray, List.map_cons, List.map_nil]); first | done | rfl | (simp only [List.length_drop, List.length_take]; rfl)) ?_; (with_reducible refine (impl_Poset_all.calls _ _ l0_0 t286 _ ?side1 ?side2 A3.out).mono ?_); (case side1 => repeat (first | exact (Kd.C_below HR0_0.out HB.out) | (with_reducible refine Kd.C_alloc ?_ _) | (with_reducible refine Kd.C_drewN ?_ _) | (with_reducible refine Kd.C_drew ?_))); (case side2 => exact HC0_0.out); rintro e w8 ⟨rfl, hb⟩; refine ⟨_, rfl, ?_⟩; have n0_ := Aside0.mk (Kd.R_below (by (with_reducible repeat (first | apply Kd.R_alloc | apply Kd.R_drewN | apply Kd.R_drew)); exact HO285.out) hb); have n1_ := Aside0.mk (blk_below (g := gb282) (o := .cells #[.slice A0_0 l0_0.length c0_0] 28 (0, 0)) (by (with_reducible repeat (first | refine blk_drewN ?_ _ | refine blk_drew ?_ | refine blk_alloc ?_ _)); exact BK282.out) hb); have n2_ := Aside0.mk (below_step (by repeat (first | (with_reducible first | exact HB.out | apply below_alloc | apply pw_below_drewN | apply below_drew1 | refine below_set ?_ GE282.out) | exact HB.out)) hb); clear HO285; clear BK282; clear HB; have HO285 := n0_; have BK282 := n1_; have HB := n2_; clear n0_ n1_ n2_; (try clear hb); (try clear hb2); (try clear hk); (try clear hi)))
  go_loopg [5, 11] k (fun kq v5 v11 w' => ∃ (x5_1 : List Int) (x11_1 : Int), v11 = .int .i64 x11_1 ∧ Aside0 (impl_Poset_sets.l0 kq x5_1 (wrap64 (t286 + 1)) x11_1 = some r) ∧ Aside0 (kq ≤ k) ∧ Aside0 (Kd.R (Kd.int .i64) 3 w' w.heap.size (fun _ => True) v5 x5_1) ∧ Aside0 (w'.heap[gb282]? = some (.cells #[(.slice A0_0 l0_0.length c0_0)] 28 (0, 0))) ∧ Aside0 (Below w.heap.size w w'))
  case atStart => exact ⟨(y283), (0), (by first | rfl | (simp; done) | (simp [*]; done)), H', ⟨Nat.le_refl _⟩, ⟨by (with_reducible repeat (first | apply Kd.R_alloc | apply Kd.R_drewN | apply Kd.R_drew)); exact HO285.out⟩, ⟨by (with_reducible repeat (first | refine blk_drewN ?_ _ | refine blk_drew ?_ | refine blk_alloc ?_ _)); exact BK282.out⟩, ⟨by repeat (first | (with_reducible first | exact HB.out | apply below_alloc | apply pw_below_drewN | apply below_drew1 | refine below_set ?_ GE282.out) | exact HB.out)⟩⟩
  case round =>
    clear H'
    try clear c1
    try clear p2
    try clear p6
    try clear hcz7_0
    try clear hfz7_0
    obtain ⟨x5_1, x11_1, rfl, HA, HK1, HO_5, BK282, HB⟩ := hrel
    cases gk with
    | zero => exact absurd HA.out (by simp [impl_Poset_sets.l0])
    | succ k1 =>
      have H := HA.out
      clear HA
      simp only [impl_Poset_sets.l0] at H
      by_cases c9 : x11_1 < (wrap64 (t286 + 1))
      · rw [if_pos c9] at H
        have c9b0 : decide (x11_1 < (wrap64 (t286 + 1))) = true := decide_eq_true c9
        clear c9
        replace H := Option.bind_eq_some_iff.mp H
        obtain ⟨t287, A100, H⟩ := H
        replace H : (if t287 = true then (if x5_1.length < 17592186044416 then (impl_Poset_sets.l0 k1 (x5_1 ++ [x11_1]) (wrap64 (t286 + 1)) (wrap64 (x11_1 + 1))) else (none)) else (impl_Poset_sets.l0 k1 x5_1 (wrap64 (t286 + 1)) (wrap64 (x11_1 + 1)))) = some r := H
        have A10 := Aside0.mk A100
        clear A100
        by_cases c11 : t287 = true
        · subst c11
          have H1 : (if x5_1.length < 17592186044416 then (impl_Poset_sets.l0 k1 (x5_1 ++ [x11_1]) (wrap64 (t286 + 1)) (wrap64 (x11_1 + 1))) else (none)) = some r := by rw [if_pos rfl] at H; exact H
          clear H
          have H := H1
          clear H1
          by_cases c12 : x5_1.length < 17592186044416
          · rw [if_pos c12] at H
            have LMc12 := Aside0.mk c12
            clear c12
            obtain ⟨y288, hy288⟩ : ∃ y_ : List Int, y_ = (x5_1 ++ [x11_1]) := ⟨_, rfl⟩
            replace H : (impl_Poset_sets.l0 k1 y288 (wrap64 (t286 + 1)) (wrap64 (x11_1 + 1))) = some r := by first | (rw [hy288]; with_reducible exact H) | (have H2_ := (Option.bind_some _ _).symm.trans H; rw [hy288]; with_reducible exact H2_) | (have H2_ := (Option.bind_some _ _).symm.trans H; with_reducible exact H2_) | with_reducible exact H | (rw [hy288]; exact H) | exact H
            have Ny288 := Aside0.mk hy288
            clear hy288
            have H' := Aside0.mk H
            clear H
            go_wp2_with (first | (go_at_fn gF; (with_reducible refine (Fv.calls (HP.out _ _ A10.out) (by repeat (first | (with_reducible first | exact HB.out | apply below_alloc | apply pw_below_drewN | apply below_drew1 | refine below_set ?_ GE282.out) | exact HB.out))).mono ?_); rintro e w13 ⟨rfl, hb⟩; have n0_ := Aside0.mk (Kd.R_below (by (with_reducible repeat (first | apply Kd.R_alloc | apply Kd.R_drewN | apply Kd.R_drew)); exact HO_5.out) hb); have n1_ := Aside0.mk (blk_below (g := gb282) (o := .cells #[.slice A0_0 l0_0.length c0_0] 28 (0, 0)) (by (with_reducible repeat (first | refine blk_drewN ?_ _ | refine blk_drew ?_ | refine blk_alloc ?_ _)); exact BK282.out) hb); have n2_ := Aside0.mk (below_step (by repeat (first | (with_reducible first | exact HB.out | apply below_alloc | apply pw_below_drewN | apply below_drew1 | refine below_set ?_ GE282.out) | exact HB.out)) hb); clear HO_5; clear BK282; clear HB; have HO_5 := n0_; have BK282 := n1_; have HB := n2_; clear n0_ n1_ n2_; (try clear hb); (try clear hb2); (try clear hk); (try clear hi)) | ((with_reducible refine gate_builtin (b := .append) (xs := #[.tmp 17, .tmp 19]) rfl ?_); at_builtin; refine Kd.R_append (Kd.int .i64) (w0 := w) w.heap.size rfl (.tmp 17) (.tmp 19) 22 3 (.int .i64 0) 8 rfl Try.underlying22 info3 rfl (by decide) (by omega) u5 x5_1 x11_1 [.int .i64 x11_1] (fun _ => True) (fun _ => False) rfl rfl ?aP (fun _ hk => hk.elim) ?aF ?aO ?aB ?aS ?aL ?_; (case aP => exact rfl); (case aB => exact (by repeat (first | (with_reducible first | exact HB.out | apply below_alloc | apply pw_below_drewN | apply below_drew1 | refine below_set ?_ GE282.out) | exact HB.out))); (case aF => exact (fun _ _ => trivial)); (case aO => exact (by (with_reducible repeat (first | apply Kd.R_alloc | apply Kd.R_drewN | apply Kd.R_drew)); exact HO_5.out)); (case aS => exact (below_size (by repeat (first | (with_reducible first | exact HB.out | apply below_alloc | apply pw_below_drewN | apply below_drew1 | refine below_set ?_ GE282.out) | exact HB.out)))); (case aL => have := LMc12.out; omega); intro v289 w14 ho hb hg hat; rw [← Ny288.out] at ho; have n0_ := Aside0.mk (blk_grown (g := gb282) (o := .cells #[.slice A0_0 l0_0.length c0_0] 28 (0, 0)) (by (with_reducible repeat (first | refine blk_drewN ?_ _ | refine blk_drew ?_ | refine blk_alloc ?_ _)); exact BK282.out) hg (Kd.R_ne HO_5.out BK282.out (by decide))); have n1_ := Aside0.mk (hb); have n2_ := Aside0.mk (ho); clear BK282; clear HB; clear HO_5; have BK282 := n0_; have HB := n1_; have HO290 := n2_; clear n0_ n1_ n2_; clear ho hb hg hat))
            go_roundg k1
            case measure => have := HK1.out; omega
            case rel => exact ⟨(y288), (wrap64 (x11_1 + 1)), (by first | rfl | (simp; done) | (simp [*]; done)), H', ⟨by have := HK1.out; omega⟩, ⟨by (with_reducible repeat (first | apply Kd.R_alloc | apply Kd.R_drewN | apply Kd.R_drew)); exact HO290.out⟩, ⟨by (with_reducible repeat (first | refine blk_drewN ?_ _ | refine blk_drew ?_ | refine blk_alloc ?_ _)); exact BK282.out⟩, ⟨by repeat (first | (with_reducible first | exact HB.out | apply below_alloc | apply pw_below_drewN | apply below_drew1 | refine below_set ?_ GE282.out) | exact HB.out)⟩⟩
          · rw [if_neg c12] at H
            exact absurd H (by simp)
        · replace c11 := Bool.eq_false_iff.mpr c11
          subst c11
          have H1 : (impl_Poset_sets.l0 k1 x5_1 (wrap64 (t286 + 1)) (wrap64 (x11_1 + 1))) = some r := by rw [if_neg (show ¬ (false = true) by decide)] at H; exact H
          clear H
          have H := H1
          clear H1
          have H' := Aside0.mk H
          clear H
          go_wp2_with (first | (go_at_fn gF; (with_reducible refine (Fv.calls (HP.out _ _ A10.out) (by repeat (first | (with_reducible first | exact HB.out | apply below_alloc | apply pw_below_drewN | apply below_drew1 | refine below_set ?_ GE282.out) | exact HB.out))).mono ?_); rintro e w15 ⟨rfl, hb⟩; have n0_ := Aside0.mk (Kd.R_below (by (with_reducible repeat (first | apply Kd.R_alloc | apply Kd.R_drewN | apply Kd.R_drew)); exact HO_5.out) hb); have n1_ := Aside0.mk (blk_below (g := gb282) (o := .cells #[.slice A0_0 l0_0.length c0_0] 28 (0, 0)) (by (with_reducible repeat (first | refine blk_drewN ?_ _ | refine blk_drew ?_ | refine blk_alloc ?_ _)); exact BK282.out) hb); have n2_ := Aside0.mk (below_step (by repeat (first | (with_reducible first | exact HB.out | apply below_alloc | apply pw_below_drewN | apply below_drew1 | refine below_set ?_ GE282.out) | exact HB.out)) hb); clear HO_5; clear BK282; clear HB; have HO_5 := n0_; have BK282 := n1_; have HB := n2_; clear n0_ n1_ n2_; (try clear hb); (try clear hb2); (try clear hk); (try clear hi)))
          go_roundg k1
          case measure => have := HK1.out; omega
          case rel => exact ⟨(x5_1), (wrap64 (x11_1 + 1)), (by first | rfl | (simp; done) | (simp [*]; done)), H', ⟨by have := HK1.out; omega⟩, ⟨by (with_reducible repeat (first | apply Kd.R_alloc | apply Kd.R_drewN | apply Kd.R_drew)); exact HO_5.out⟩, ⟨by (with_reducible repeat (first | refine blk_drewN ?_ _ | refine blk_drew ?_ | refine blk_alloc ?_ _)); exact BK282.out⟩, ⟨by repeat (first | (with_reducible first | exact HB.out | apply below_alloc | apply pw_below_drewN | apply below_drew1 | refine below_set ?_ GE282.out) | exact HB.out)⟩⟩
      · rw [if_neg c9] at H
        have c9b0 : decide (x11_1 < (wrap64 (t286 + 1))) = false := decide_eq_false c9
        clear c9
        obtain rfl := Option.some.inj H
        go_wp2
        go_ret
        exact ⟨_, by first | rfl | (simp [errW_none, errW_some] <;> rfl) | (simp [*, errW_none, errW_some] <;> rfl), by (with_reducible repeat (first | apply Kd.R_alloc | apply Kd.R_drewN | apply Kd.R_drew)); exact HO_5.out, by repeat (first | (with_reducible first | exact HB.out | apply below_alloc | apply pw_below_drewN | apply below_drew1 | refine below_set ?_ GE282.out) | exact HB.out)⟩
end Go.Proofs.Ytioibkdjcmkcpaa.L
end
section
namespace Go.Proofs.Ytioibkdjcmkcpaa.L
open Go.RowKit Go.Proofs.YtioibkdjcmkcpaaW.PrintWords Go.Proofs.YtioibkdjcmkcpaaW.PrintLast Go.Proofs.YtioibkdjcmkcpaaW.PrintMore
attribute [local go_sem] max2_int min2_int max_two min_two max_three min_three max_four min_four
set_option linter.unusedVariables false
set_option linter.unusedSimpArgs false
@[reducible] def impl_Poset_ideals.inst (k : Nat) (l0 : List Int) : Fn1 := ⟨fun s => (impl_Poset_close.f k l0 s).map (· == s)⟩
def impl_Poset_ideals.f (k : Nat) (l0_0 : List Int) : Option (List Int) := @impl_Poset_sets.f (impl_Poset_ideals.inst k l0_0) k l0_0 0
theorem impl_Poset_ideals.mono_i (i i' : Fn1) (hi : ∀ s, LeO (i.p s) (i'.p s)) : ∀ k y0 y1 y2, LeO (@impl_Poset_sets.l0 i k y0 y1 y2) (@impl_Poset_sets.l0 i' k y0 y1 y2)
  | 0, _, _, _ => fun r h => by cases h
  | k + 1, y0, y1, y2 => by
    rw [@impl_Poset_sets.l0.eq_2 i, @impl_Poset_sets.l0.eq_2 i']
    exact LeO.ite (LeO.bind (hi _) (fun t => LeO.ite (LeO.ite (impl_Poset_ideals.mono_i i i' hi k _ _ _) (LeO.refl _)) (impl_Poset_ideals.mono_i i i' hi k _ _ _))) (LeO.refl _)
theorem impl_Poset_ideals.mono : ∀ a0 k, LeO (impl_Poset_ideals.f k a0) (impl_Poset_ideals.f (k + 1) a0) := by
  intro l0 k
  refine LeO.trans (@impl_Poset_sets.mono (impl_Poset_ideals.inst k l0) _ _ k) ?_
  unfold impl_Poset_sets.f
  refine LeO.bind (LeO.refl _) (fun t => impl_Poset_ideals.mono_i _ _ (fun s r h => ?_) _ _ _ _)
  obtain ⟨v, hv, e⟩ := Option.map_eq_some_iff.mp h
  exact Option.map_eq_some_iff.mpr ⟨v, impl_Poset_close.mono _ _ _ _ hv, e⟩
open Go.Proofs.Ytioibkdjcmkcpaa.X in
set_option maxHeartbeats 800000 in
set_option maxRecDepth 100000 in
theorem impl_Poset_ideals.lit (k : Nat) (A0 : Option Addr) (c0 : Nat) (l0 : List Int) (s : Int) (t : Bool) (B : Nat) (w : World) (hr0 : Kd.C (Kd.int .i64) w A0 l0.length l0) (hc0 : l0.length ≤ c0) (hB : B < w.heap.size) (hc : w.cell? ⟨B, 0, none⟩ = some (.slice A0 l0.length c0)) (h : (impl_Poset_ideals.inst k l0).p s = some t) :
    Fv Try.prog 108 #[.pointer (some ⟨B, 0, none⟩)] #[.int .i64 s] (.bool t) w := by
  intro W hb
  have hc' : W.cell? ⟨B, 0, none⟩ = some (.slice A0 l0.length c0) := (hb.cell (p := ⟨B, 0, none⟩) hB).trans hc
  obtain ⟨v, hv, rfl⟩ := Option.map_eq_some_iff.mp h
  have HV := Aside0.mk hv
  have HR := Aside0.mk (Kd.C_below hr0 hb)
  have HC := Aside0.mk hc0
  clear h hv hr0 hb hc hc0
  have hu := Try.underlying28
  go_enter Try.func108, Try.ntmps108
  go_wp2_with (go_at_call 109; (with_reducible refine (impl_Poset_close.calls k _ _ l0 s v _ HR.out HC.out HV.out).mono ?_); rintro e w1 ⟨rfl, hb⟩)
  go_ret
  exact ⟨rfl, hb⟩
open Go.Proofs.Ytioibkdjcmkcpaa.X in
set_option maxHeartbeats 800000 in
set_option maxRecDepth 100000 in
theorem impl_Poset_ideals.calls (k : Nat) (A0_0 : Option Addr) (c0_0 : Nat) (l0_0 : List Int) (r : List Int) (w : World) (hr0_0 : Kd.C (Kd.int .i64) w A0_0 l0_0.length l0_0) (hc0_0 : l0_0.length ≤ c0_0) (h : impl_Poset_ideals.f k l0_0 = some r) :
    Calls Try.prog 69 #[.agg #[.slice A0_0 l0_0.length c0_0]] w fun e w' => ∃ v0_ : Value, e = .returned (v0_) ∧ Kd.R (Kd.int .i64) 3 w' w.heap.size (fun _ => True) v0_ r ∧ Below w.heap.size w w' := by
  unfold impl_Poset_ideals.f at h
  have HF := Aside0.mk h
  have HR := Aside0.mk hr0_0
  have HC := Aside0.mk hc0_0
  clear h hr0_0 hc0_0
  have hu := Try.underlying28
  go_enter Try.func69, Try.ntmps69
  go_wp2_with fail
  have B0 := Aside0.mk (below_alloc (Below.refl w.heap.size w) (.cells #[.slice A0_0 l0_0.length c0_0] 28))
  refine (@impl_Poset_sets.calls (impl_Poset_ideals.inst k l0_0) 108 #[.pointer (some ⟨w.heap.size, 0, none⟩)] (enters_ Try.func108 (by kernel_rfl) rfl) k _ _ l0_0 0 r _ (Kd.C_below HR.out B0.out) HC.out (fun s b hb => impl_Poset_ideals.lit k A0_0 c0_0 l0_0 s b w.heap.size _ (Kd.C_below HR.out B0.out) HC.out (by simp) (by simp) hb) HF.out).mono ?_
  rintro e w2 ⟨v0, rfl, hR, hb⟩
  have hR2 := Kd.R_lower hR (show w.heap.size ≤ _ by simp)
  have B2 := Aside0.mk (below_to B0.out hb)
  have HO := Aside0.mk hR2
  clear hR hR2 hb
  go_wp2
  go_ret
  exact ⟨_, rfl, HO.out, B2.out⟩
end Go.Proofs.Ytioibkdjcmkcpaa.L
end
section
namespace Go.Proofs.Ytioibkdjcmkcpaa.L
open Go.RowKit Go.Proofs.YtioibkdjcmkcpaaW.PrintWords Go.Proofs.YtioibkdjcmkcpaaW.PrintLast Go.Proofs.YtioibkdjcmkcpaaW.PrintMore
attribute [local go_sem] max2_int min2_int max_two min_two max_three min_three max_four min_four
set_option linter.unusedVariables false
set_option linter.unusedSimpArgs false
def impl_Poset_count.at : List (Int × Int) → Int → Int
  | [], _ => 0
  | p :: l, k => if k = p.1 then p.2 else impl_Poset_count.at l k
def impl_Poset_count.ok (tt_ from_ : Int) : Bool := decide (Go.bits .andNot .i64 from_ tt_ = 0)
def impl_Poset_count.vis (c : Int → Bool) (left : Lit → Bool) : List (Int × Int) → Int
  | [] => 0
  | p :: l => (if c p.1 && !left (.int .i64 p.1) then p.2 else 0) + impl_Poset_count.vis c left l
def impl_Poset_count.met (c : Int → Bool) (left : Lit → Bool) : List (Int × Int) → Bool
  | [] => false
  | p :: l => (c p.1 && !left (.int .i64 p.1)) || impl_Poset_count.met c left l
def impl_Poset_count.cur (tt_ : Int) (left : Lit → Bool) (rows nx : List (Int × Int)) : List (Int × Int) :=
  if impl_Poset_count.met (impl_Poset_count.ok tt_) left rows = true then (tt_, wrap64 (impl_Poset_count.vis (impl_Poset_count.ok tt_) left rows)) :: nx else nx
def impl_Poset_count.step (rows : List (Int × Int)) : List Int → List (Int × Int) → List (Int × Int)
  | [], nx => nx
  | tt_ :: l, nx => impl_Poset_count.step rows l (impl_Poset_count.cur tt_ (fun _ => false) rows nx)
def impl_Poset_count.iter (ids : List Int) : Nat → List (Int × Int) → List (Int × Int)
  | 0, rows => rows
  | n + 1, rows => impl_Poset_count.iter ids n (impl_Poset_count.step rows ids [])
def impl_Poset_count.tot (rows : List (Int × Int)) : Int := wrap64 (impl_Poset_count.vis (fun _ => true) (fun _ => false) rows)
def impl_Poset_count.nd : List Int → Bool
  | [] => true
  | x :: l => !l.contains x && impl_Poset_count.nd l
def impl_Poset_count.f (k : Nat) (l0_0 : List Int) (a1 : Int) : Option Int :=
  (impl_Poset_ideals.f k l0_0).bind fun ids => if ids.length ≤ 1000000 ∧ (ids.all fun d => (Lit.int .i64 d).wf) = true ∧ impl_Poset_count.nd ids = true ∧ 0 ≤ a1 ∧ a1 ≤ 1000000 then some (impl_Poset_count.tot (impl_Poset_count.iter ids a1.toNat [(0, 1)])) else none
theorem impl_Poset_count.mono : ∀ a0 a1 k, LeO (impl_Poset_count.f k a0 a1) (impl_Poset_count.f (k + 1) a0 a1) := fun l0 a1 k => LeO.bind (impl_Poset_ideals.mono _ _) fun ids => LeO.refl _
def impl_Poset_count.keys (rows : List (Int × Int)) : List Int := rows.map (·.1)
theorem impl_Poset_count.nd_iff : ∀ l : List Int, impl_Poset_count.nd l = true ↔ l.Nodup
  | [] => by simp [impl_Poset_count.nd]
  | x :: l => by simp [impl_Poset_count.nd, impl_Poset_count.nd_iff l]
theorem impl_Poset_count.same (x y : Int) : (Lit.int .i64 x).sameKey (.int .i64 y) = decide (x = y) := by simp [Lit.sameKey]
theorem impl_Poset_count.vis_out (c : Int → Bool) (left : Lit → Bool) (x : Int) : ∀ rows : List (Int × Int), x ∉ rows.map (·.1) →
    impl_Poset_count.vis c (fun z => left z && !z.sameKey (.int .i64 x)) rows = impl_Poset_count.vis c left rows ∧ impl_Poset_count.met c (fun z => left z && !z.sameKey (.int .i64 x)) rows = impl_Poset_count.met c left rows
  | [], _ => ⟨rfl, rfl⟩
  | p :: l, h => by
    obtain ⟨i1, i2⟩ := impl_Poset_count.vis_out c left x l (fun hm => h (List.mem_cons_of_mem _ hm))
    have e : p.1 ≠ x := fun e => h (by rw [← e]; exact List.mem_cons_self)
    have el : (left (.int .i64 p.1) && !(Lit.int .i64 p.1).sameKey (.int .i64 x)) = left (.int .i64 p.1) := by rw [impl_Poset_count.same, decide_eq_false e]; simp
    simp only [impl_Poset_count.vis, impl_Poset_count.met, i1, i2, el, and_self]
theorem impl_Poset_count.vis_in (c : Int → Bool) (left : Lit → Bool) (x v : Int) (hl : left (.int .i64 x) = true) : ∀ rows : List (Int × Int), (rows.map (·.1)).Nodup → x ∈ rows.map (·.1) → impl_Poset_count.at rows x = v →
    impl_Poset_count.vis c (fun z => left z && !z.sameKey (.int .i64 x)) rows = impl_Poset_count.vis c left rows + (if c x = true then v else 0) ∧ impl_Poset_count.met c (fun z => left z && !z.sameKey (.int .i64 x)) rows = (impl_Poset_count.met c left rows || c x)
  | [], _, h, _ => by cases h
  | p :: l, hn, hm, ha => by
    rw [List.map_cons, List.nodup_cons] at hn
    by_cases e : p.1 = x
    · subst e
      obtain ⟨i1, i2⟩ := impl_Poset_count.vis_out c left p.1 l hn.1
      unfold impl_Poset_count.at at ha
      rw [if_pos rfl] at ha
      have el : (Lit.int .i64 p.1).sameKey (.int .i64 p.1) = true := by rw [impl_Poset_count.same, decide_eq_true rfl]
      simp only [impl_Poset_count.vis, impl_Poset_count.met, i1, i2, el, hl, ← ha]
      refine ⟨?_, ?_⟩
      · cases c p.1 <;> simp <;> omega
      · cases c p.1 <;> simp
    · unfold impl_Poset_count.at at ha
      rw [if_neg (fun z => e z.symm)] at ha
      have hm2 : x ∈ l.map (·.1) := by
        rw [List.map_cons, List.mem_cons] at hm
        exact hm.resolve_left fun h => e h.symm
      obtain ⟨i1, i2⟩ := impl_Poset_count.vis_in c left x v hl l hn.2 hm2 ha
      have el : (left (.int .i64 p.1) && !(Lit.int .i64 p.1).sameKey (.int .i64 x)) = left (.int .i64 p.1) := by rw [impl_Poset_count.same, decide_eq_false e]; simp
      simp only [impl_Poset_count.vis, impl_Poset_count.met, i1, i2, el]
      refine ⟨?_, ?_⟩
      · omega
      · rw [Bool.or_assoc]
def impl_Poset_count.Rel (D : DataW Unit) (rows : List (Int × Int)) : Prop :=
  (∀ y : Int, Go.Maps.has D (.int .i64 y) = (rows.map (·.1)).contains y) ∧ (∀ y : Int, D.atKey (.int .i64 y) (.lit (.int .i64 0)) = .lit (.int .i64 (impl_Poset_count.at rows y))) ∧ Go.Maps.size D = rows.length
theorem impl_Poset_count.Rel.nil : impl_Poset_count.Rel (.map []) [] := ⟨fun y => rfl, fun y => rfl, rfl⟩
theorem impl_Poset_count.Rel.put {D : DataW Unit} {l l' : List (Int × Int)} {x v : Int} (hD : Go.Maps.IsMap D) (ht : Go.Maps.Tidy D) (h : impl_Poset_count.Rel D l)
    (he : l = l' ∨ ∃ v', l = (x, v') :: l') (hx : x ∉ l'.map (·.1)) : impl_Poset_count.Rel (D.put (.int .i64 x) (.lit (.int .i64 v))) ((x, v) :: l') := by
  obtain ⟨h1, h2, h3⟩ := h
  refine ⟨fun y => ?_, fun y => ?_, ?_⟩
  · by_cases e : y = x
    · subst e
      rw [Go.Maps.has_put_same hD (show WideAt.IsKeyLit (.int .i64 y) from trivial)]; simp
    · rw [Go.Maps.has_put_other (fun he => e (by injection he)), h1 y]
      rcases he with rfl | ⟨v', rfl⟩ <;> simp [e]
  · unfold impl_Poset_count.at
    by_cases e : y = x
    · subst e
      rw [Go.Maps.atKey_put_same hD (show WideAt.IsKeyLit (.int .i64 y) from trivial), if_pos rfl]
    · rw [Go.Maps.atKey_put_other (fun he => e (by injection he)), h2 y, if_neg e]
      rcases he with rfl | ⟨v', rfl⟩
      · rfl
      · rw [impl_Poset_count.at, if_neg e]
  · rw [Go.Maps.size_put ht, h1 x, h3]
    rcases he with rfl | ⟨v', rfl⟩
    · rw [if_neg (by simpa using hx)]; rfl
    · rw [if_pos (by simp)]; rfl
theorem impl_Poset_count.cur_end {tt_ : Int} {left : Lit → Bool} {rows nx : List (Int × Int)} (h : ∀ kl, left kl = false) : impl_Poset_count.cur tt_ left rows nx = impl_Poset_count.cur tt_ (fun _ => false) rows nx := by
  have e : left = fun _ => false := funext h
  rw [e]
theorem impl_Poset_count.vis_start (c : Int → Bool) {left : Lit → Bool} : ∀ {rows : List (Int × Int)}, (∀ y ∈ rows.map (·.1), left (.int .i64 y) = true) → impl_Poset_count.vis c left rows = 0 ∧ impl_Poset_count.met c left rows = false
  | [], _ => ⟨rfl, rfl⟩
  | p :: l, h => by
    obtain ⟨i1, i2⟩ := impl_Poset_count.vis_start c (rows := l) fun y hy => h y (List.mem_cons_of_mem _ hy)
    simp [impl_Poset_count.vis, impl_Poset_count.met, i1, i2, h p.1 List.mem_cons_self]
theorem impl_Poset_count.cur_start {tt_ : Int} {left : Lit → Bool} {rows nx : List (Int × Int)} (h : ∀ y ∈ rows.map (·.1), left (.int .i64 y) = true) : impl_Poset_count.cur tt_ left rows nx = nx := by
  unfold impl_Poset_count.cur
  rw [(impl_Poset_count.vis_start _ h).2]
  rfl
theorem impl_Poset_count.at_out : ∀ {l : List (Int × Int)} {x : Int}, x ∉ l.map (·.1) → impl_Poset_count.at l x = 0
  | [], _, _ => rfl
  | p :: l, x, h => by
    rw [impl_Poset_count.at, if_neg (fun e => h (by rw [e]; exact List.mem_cons_self)), impl_Poset_count.at_out fun hm => h (List.mem_cons_of_mem _ hm)]
theorem impl_Poset_count.vis_none {c : Int → Bool} {left : Lit → Bool} : ∀ {rows : List (Int × Int)}, impl_Poset_count.met c left rows = false → impl_Poset_count.vis c left rows = 0
  | [], _ => rfl
  | p :: l, h => by
    rw [impl_Poset_count.met, Bool.or_eq_false_iff] at h
    rw [impl_Poset_count.vis, impl_Poset_count.vis_none h.2, if_neg (by rw [h.1]; simp)]; rfl
theorem impl_Poset_count.at_cur {tt_ : Int} {left : Lit → Bool} {rows nx : List (Int × Int)} (hx : tt_ ∉ nx.map (·.1)) : impl_Poset_count.at (impl_Poset_count.cur tt_ left rows nx) tt_ = wrap64 (impl_Poset_count.vis (impl_Poset_count.ok tt_) left rows) := by
  unfold impl_Poset_count.cur
  split
  · rw [impl_Poset_count.at, if_pos rfl]
  · rename_i h
    rw [impl_Poset_count.at_out hx, impl_Poset_count.vis_none (by simpa using h)]; (unfold wrap64; omega)
theorem impl_Poset_count.wrap_add (a b : Int) : wrap64 (wrap64 a + b) = wrap64 (a + b) := by unfold wrap64; omega
theorem impl_Poset_count.cur_yes {tt_ x v : Int} {left : Lit → Bool} {rows nx : List (Int × Int)} (hl : left (.int .i64 x) = true) (hn : (rows.map (·.1)).Nodup) (hm : x ∈ rows.map (·.1)) (ha : impl_Poset_count.at rows x = v) (hc : impl_Poset_count.ok tt_ x = true) :
    impl_Poset_count.cur tt_ (fun z => left z && !z.sameKey (.int .i64 x)) rows nx = (tt_, wrap64 (wrap64 (impl_Poset_count.vis (impl_Poset_count.ok tt_) left rows) + v)) :: nx := by
  obtain ⟨i1, i2⟩ := impl_Poset_count.vis_in (impl_Poset_count.ok tt_) left x v hl rows hn hm ha
  unfold impl_Poset_count.cur
  rw [i1, i2, hc, Bool.or_true, if_pos rfl, if_pos rfl, impl_Poset_count.wrap_add]
theorem impl_Poset_count.cur_no {tt_ x v : Int} {left : Lit → Bool} {rows nx : List (Int × Int)} (hl : left (.int .i64 x) = true) (hn : (rows.map (·.1)).Nodup) (hm : x ∈ rows.map (·.1)) (ha : impl_Poset_count.at rows x = v) (hc : impl_Poset_count.ok tt_ x = false) :
    impl_Poset_count.cur tt_ (fun z => left z && !z.sameKey (.int .i64 x)) rows nx = impl_Poset_count.cur tt_ left rows nx := by
  obtain ⟨i1, i2⟩ := impl_Poset_count.vis_in (impl_Poset_count.ok tt_) left x v hl rows hn hm ha
  unfold impl_Poset_count.cur
  rw [i1, i2, hc, Bool.or_false, if_neg (by simp : ¬ (false = true)), Int.add_zero]
theorem impl_Poset_count.cur_split {tt_ : Int} {left : Lit → Bool} {rows nx : List (Int × Int)} : impl_Poset_count.cur tt_ left rows nx = nx ∨ ∃ v', impl_Poset_count.cur tt_ left rows nx = (tt_, v') :: nx := by
  unfold impl_Poset_count.cur
  split
  · exact .inr ⟨_, rfl⟩
  · exact .inl rfl
theorem impl_Poset_count.wf_wrap (a : Int) : (Lit.int .i64 (wrap64 a)).wf = true := by
  unfold Lit.wf wrap64
  simp only [Bool.and_eq_true, decide_eq_true_eq]
  have e1 : IntKind.i64.min = -9223372036854775808 := by decide
  have e2 : IntKind.i64.max = 9223372036854775807 := by decide
  rw [e1, e2]
  omega
theorem impl_Poset_count.tight {P : Program} {kk : TypeId} {R : Value → Option (DataW Unit × List MemPlace)} {w : World} {b n : Nat} {D : DataW Unit} (h : w.ownsMap P kk R b n D) : w.ownsMap P kk R b (Go.Maps.size D) D := by
  obtain ⟨es, clock, hb, F, hs, rfl⟩ := h
  exact ⟨es, clock, hb, F, by simp [Go.Maps.size, length_sorted], rfl⟩
theorem impl_Poset_count.look {H : Type} {P : Program} (w : World) {ops : Array Oper} {rest : List Oper} {o : Oper} {a : Act} {Q : Exit → Act → World → Prop}
    (hg : o.guard = none) (m x : Operand) (t : TypeId) (hop : o.op = Op.lookup t m x false)
    (k e : TypeId) (K : Go.Maps.Keyed P k) (ht : P.underlying t = some (.map k e)) (he : P.underlying e = some (.int .i64)) (hz : (zeroValue e).run P w = .ok (.int .i64 0) w) (b n : Nat) (D : DataW H)
    (hm : a.eval m = .map (some b)) (hown : w.ownsMap P k (plainElem P e) b n D) (key : Value) (kl : Lit) (hx : a.eval x = key) (hkey : keyOf P k key = some kl) (r : Int) (hr : D.atKey kl (.lit (.int .i64 0)) = .lit (.int .i64 r))
    (hK : wpList P ops Q rest (a.put o.dst (.int .i64 r)) w) :
    wpList P ops Q (o :: rest) a w := by
  refine wpList_lookup_own_int w hg m x t hop k e .i64 K ht he hz b n D hm hown key kl hx hkey (fun c hc _ => ?_)
  rw [hr] at hc
  injection hc with hc
  injection hc with _ hc
  subst hc
  exact hK
theorem impl_Poset_count.step_cons (rows : List (Int × Int)) (x : Int) (l : List Int) (nx : List (Int × Int)) : impl_Poset_count.step rows (x :: l) nx = impl_Poset_count.step rows l (impl_Poset_count.cur x (fun _ => false) rows nx) := rfl
theorem impl_Poset_count.cur_keys {t : Int} {left : Lit → Bool} {rows nx : List (Int × Int)} {l : List Int} (h : ∀ y ∈ nx.map (·.1), y ∈ l) : ∀ y ∈ (impl_Poset_count.cur t left rows nx).map (·.1), y ∈ l ++ [t] := by
  intro y hy
  rcases impl_Poset_count.cur_split (tt_ := t) (left := left) (rows := rows) (nx := nx) with e | ⟨v, e⟩
  · rw [e] at hy; exact List.mem_append_left _ (h y hy)
  · rw [e, List.map_cons, List.mem_cons] at hy
    rcases hy with hy | hy
    · rw [hy]; simp
    · exact List.mem_append_left _ (h y hy)
theorem impl_Poset_count.cur_nodup {t : Int} {left : Lit → Bool} {rows nx : List (Int × Int)} (h : (nx.map (·.1)).Nodup) (ht : t ∉ nx.map (·.1)) : ((impl_Poset_count.cur t left rows nx).map (·.1)).Nodup := by
  rcases impl_Poset_count.cur_split (tt_ := t) (left := left) (rows := rows) (nx := nx) with e | ⟨v, e⟩
  · rw [e]; exact h
  · rw [e, List.map_cons, List.nodup_cons]; exact ⟨ht, h⟩
theorem impl_Poset_count.cur_len {t : Int} {left : Lit → Bool} {rows nx : List (Int × Int)} : (impl_Poset_count.cur t left rows nx).length ≤ nx.length + 1 := by
  rcases impl_Poset_count.cur_split (tt_ := t) (left := left) (rows := rows) (nx := nx) with e | ⟨v, e⟩ <;> rw [e] <;> simp
theorem impl_Poset_count.fresh {ids : List Int} {j : Nat} (hj : j < ids.length) (hn : ids.Nodup) : ids[j] ∉ ids.take j := by
  intro h
  obtain ⟨i, hi, e⟩ := List.mem_take_iff_getElem.mp h
  have := (List.getElem_inj hn).mp e
  omega
theorem impl_Poset_count.zeroE (w : World) : (zeroValue 3).run Try.prog w = .ok (.int .i64 0) w := by kernel_rfl
theorem impl_Poset_count.law : Go.Maps.Keyed Try.prog 3 := Go.Maps.int_keyed Try.underlying3
open Go.Proofs.Ytioibkdjcmkcpaa.X in
set_option maxHeartbeats 3200000 in
set_option maxRecDepth 100000 in
theorem impl_Poset_count.calls (k : Nat) (A0_0 : Option Addr) (c0_0 : Nat) (l0_0 : List Int) (a1 : Int) (r : Int) (w : World) (hr0_0 : Kd.C (Kd.int .i64) w A0_0 l0_0.length l0_0) (hc0_0 : l0_0.length ≤ c0_0) (h : impl_Poset_count.f k l0_0 a1 = some r) :
    Calls Try.prog 93 #[.agg #[.slice A0_0 l0_0.length c0_0], .int .i64 a1] w fun e w' => e = .returned (.int .i64 r) ∧ Below w.heap.size w w' := by
  unfold impl_Poset_count.f at h
  have hn_ := Option.bind_eq_some_iff.mp h
  clear h
  obtain ⟨ids, hi, h⟩ := hn_
  split at h
  · rename_i hc
    have HI := Aside0.mk hi
    have HC2 := Aside0.mk hc
    have HF := Aside0.mk (Option.some.inj h)
    have HR := Aside0.mk hr0_0
    have HC := Aside0.mk hc0_0
    clear h hi hc hr0_0 hc0_0
    have hu := Try.underlying28
    have hmm := @run_makeMap Try.prog
    go_enter Try.func93, Try.ntmps93
    go_wp2_with fail
    refine (impl_Poset_ideals.calls k _ _ l0_0 ids _ (Kd.C_alloc HR.out _) HC.out HI.out).mono ?_
    rintro e w1 ⟨v0, rfl, hR, hb⟩
    have B1 := Aside0.mk (below_to (below_alloc (Below.refl w.heap.size w) (.cells #[.slice A0_0 l0_0.length c0_0] 28)) hb)
    obtain ⟨A1, c1, rfl, hl1, hC1⟩ := Kd.R_reads hR
    have C1 := Aside0.mk hC1
    have M0 := World.ownsMap_made (H := Unit) w1 Try.prog 3 (plainElem Try.prog 3)
    obtain ⟨w2, hup, hM2, hg2⟩ := M0.update impl_Poset_count.law Try.underlying85 (by unfold maxLen; omega) (key := .int .i64 0) (val := .int .i64 1) (Go.Maps.keyOf_int_mk Try.underlying3 rfl) (plainElem_int Try.underlying3 rfl)
    have hM20 := M0
    clear M0 hR hb hl1 hC1
    have B2 := Aside0.mk (pw_below_grown (below_alloc (Below.refl w1.heap.size w1) (.map #[] 0)) (some w1.heap.size) (Nat.le_of_lt (by simp)) hg2 (fun k_ e => by injection e with e; omega))
    have MW := Aside0.mk hM2
    have L0 := Aside0.mk (impl_Poset_count.Rel.put (x := 0) (v := 1) hM20.isMap (hM20.tidy impl_Poset_count.law) impl_Poset_count.Rel.nil (.inl rfl) (by simp))
    clear hg2 hM20
    go_wp2_with fail
    obtain ⟨b0, hb0⟩ : ∃ b0, b0 = w1.heap.size := ⟨_, rfl⟩
    rw [← hb0] at MW ⊢
    have GB := Aside0.mk (show w1.heap.size ≤ b0 by omega)
    clear hb0 hup
    obtain ⟨M, hM⟩ : ∃ M : Nat, a1 = (M : Int) := ⟨a1.toNat, by have := HC2.out.2.2.2.1; omega⟩
    subst hM
    have HM := Aside0.mk (show M ≤ 1000000 by have := HC2.out.2.2.2.2; omega)
    have HF2 := Aside0.mk (show impl_Poset_count.tot (impl_Poset_count.iter ids M [(0, 1)]) = r by have := HF.out; rwa [Int.toNat_natCast] at this)
    have HN := Aside0.mk ((impl_Poset_count.nd_iff ids).mp HC2.out.2.2.1)
    clear HF
    go_loopw [6, 20] (fun v6 v20 wr => ∃ (q : Nat) (rows : List (Int × Int)) (b n : Nat) (D : DataW Unit), v6 = .map (some b) ∧ v20 = .int .i64 q ∧ q ≤ M ∧ Aside0 (impl_Poset_count.tot (impl_Poset_count.iter ids (M - q) rows) = r) ∧ Aside0 (wr.ownsMap Try.prog 3 (plainElem Try.prog 3) b n D) ∧ Aside0 (impl_Poset_count.Rel D rows) ∧ Aside0 ((rows.map (·.1)).Nodup) ∧ Aside0 (Below w1.heap.size w1 wr) ∧ Aside0 (w1.heap.size ≤ b)) (fun _ v20 _ => M - (intOf v20).toNat)
    case atStart => exact ⟨0, [(0, 1)], b0, _, _, rfl, rfl, Nat.zero_le _, HF2, MW, L0, ⟨by simp⟩, B2, GB⟩
    case round =>
      clear MW L0 B2 GB HF2
      obtain ⟨q, rows, b, n, D, rfl, rfl, hq, HF, MW, HL, HK, HB, GB⟩ := hrel
      by_cases hlt : q < M
      · have hf := HF.out
        have e2 : wrap64 ((q : Int) + 1) = ((q + 1 : Nat) : Int) := by have := HM.out; unfold wrap64; omega
        rw [show M - q = (M - (q + 1)) + 1 by omega, impl_Poset_count.iter] at hf
        have HF2 := Aside0.mk hf
        clear hf HF
        go_wp2_with fail
        obtain ⟨b2, hb2⟩ : ∃ b2, b2 = wr.heap.size := ⟨_, rfl⟩
        have M2 := Aside0.mk (World.ownsMap_made (H := Unit) wr Try.prog 3 (plainElem Try.prog 3))
        have MWa := Aside0.mk (MW.out.alloc (.map #[] 0))
        have HBa := Aside0.mk (below_alloc HB.out (.map #[] 0))
        have NE := Aside0.mk (show b ≠ b2 by have := MW.out.lt; omega)
        have GB2 := Aside0.mk (show w1.heap.size ≤ b2 by have := HB.out.size; omega)
        rw [← hb2] at M2 ⊢
        clear hb2 MW HB
        generalize wr.alloc (.map #[] 0) = wa at M2 MWa HBa ⊢
        go_loopw [25] (fun v25 wi => ∃ (j : Nat) (nx : List (Int × Int)) (n2 : Nat) (D2 : DataW Unit), v25 = .int .i64 j ∧ j ≤ ids.length ∧ Aside0 (impl_Poset_count.step rows ids [] = impl_Poset_count.step rows (ids.drop j) nx) ∧ Aside0 (wi.ownsMap Try.prog 3 (plainElem Try.prog 3) b n D) ∧ Aside0 (wi.ownsMap Try.prog 3 (plainElem Try.prog 3) b2 n2 D2) ∧ Aside0 (impl_Poset_count.Rel D2 nx) ∧ Aside0 ((nx.map (·.1)).Nodup) ∧ Aside0 (∀ y ∈ nx.map (·.1), y ∈ ids.take j) ∧ Aside0 (nx.length ≤ j) ∧ Aside0 (Below w1.heap.size w1 wi)) (fun v25 _ => ids.length - (intOf v25).toNat)
        case atStart => exact ⟨0, [], _, _, rfl, Nat.zero_le _, ⟨by rw [List.drop_zero]⟩, MWa, M2, ⟨impl_Poset_count.Rel.nil⟩, ⟨by simp⟩, ⟨fun y hy => by cases hy⟩, ⟨Nat.le_refl _⟩, HBa⟩
        case round =>
          clear MWa M2 HBa
          obtain ⟨j, nx, n2, D2, rfl, hj, HS, MW, M2, HL2, HK2, HT2, HN2, HB⟩ := hrel
          by_cases hjl : j < ids.length
          · have hs := HS.out
            rw [List.drop_eq_getElem_cons hjl, impl_Poset_count.step_cons] at hs
            obtain ⟨ad, e1, hx0⟩ := Kd.at_int (Kd.C_below C1.out HB.out) (j : Int) (by omega) (by omega)
            rw [Int.toNat_natCast] at hx0
            cases e1
            have hx := hx0
            rw [show rd ids (j : Int) = ids[j] by simp [rd, List.getD_eq_getElem?_getD, hjl]] at hx
            have WFd := Aside0.mk (show (Lit.int .i64 ids[j]).wf = true from List.all_eq_true.mp HC2.out.2.1 _ (List.getElem_mem hjl))
            have FR := Aside0.mk (show ids[j] ∉ nx.map (·.1) from fun h => impl_Poset_count.fresh hjl HN.out (HT2.out _ h))
            have TK := Aside0.mk (show ids.take (j + 1) = ids.take j ++ [ids[j]] from List.take_succ_eq_append_getElem hjl)
            obtain ⟨d, hde⟩ : ∃ d, d = ids[j] := ⟨_, rfl⟩
            rw [← hde] at hx hs WFd FR TK
            have HS2 := Aside0.mk hs
            have p4 : 0 ≤ ((j : Nat) : Int) := by omega
            have q4 : ((j : Nat) : Int) < (ids.length : Int) := by omega
            have hj1 : j + 1 ≤ ids.length := hjl
            have e3 : wrap64 ((j : Int) + 1) = ((j + 1 : Nat) : Int) := by have := HC2.out.1; unfold wrap64; omega
            clear hde hx0 hs HS
            go_wp2_with (first | (at_range; refine wpList_range_own _ rfl _ 85 rfl 3 3 impl_Poset_count.law Try.underlying85 _ b n D rfl MW.out ?_; intro w0 hrg0 hg0 hs0) | go_in)
            go_frame
            obtain ⟨r0, hr0⟩ : ∃ r0, r0 = wr.heap.size := ⟨_, rfl⟩
            rw [← hr0] at hrg0 ⊢
            have HR0 := Aside0.mk hrg0
            have M20 := Aside0.mk (M2.out.kept hg0 (by simp))
            have HB0 := Aside0.mk (pw_below_grown HB.out none HB.out.size hg0 (fun k_ e => by cases e))
            have NR := Aside0.mk (show r0 ≠ b2 by have := M2.out.lt; omega)
            have GR := Aside0.mk (show w1.heap.size ≤ r0 by have := HB.out.size; omega)
            have LC0 := Aside0.mk (show impl_Poset_count.Rel D2 (impl_Poset_count.cur d (Go.Maps.has D) rows nx) by rw [impl_Poset_count.cur_start (fun y hy => by rw [HL.out.1 y]; simpa using hy)]; exact HL2.out)
            clear hr0 hrg0 hg0 hs0 MW M2 HB
            go_loopw [10] (fun _ wk => ∃ (left : Lit → Bool) (cnt n3 : Nat) (D3 : DataW Unit), Aside0 (wk.ranges Try.prog 3 (plainElem Try.prog 3) b r0 n D left cnt) ∧ Aside0 (wk.ownsMap Try.prog 3 (plainElem Try.prog 3) b2 n3 D3) ∧ Aside0 (impl_Poset_count.Rel D3 (impl_Poset_count.cur d left rows nx)) ∧ Aside0 (Below w1.heap.size w1 wk)) (fun _ wk => wk.rangeLeft b r0)
            case atStart => exact ⟨_, _, _, _, HR0, M20, LC0, HB0⟩
            case round =>
              clear HR0 M20 LC0 HB0
              obtain ⟨left, cnt, n3, D3, HRG, M3, HL3, HB⟩ := hrel
              have hrg := HRG.out
              go_wp2_with (first | (at_next; refine wpList_next_ranges_ii _ rfl _ rfl 3 3 .i64 .i64 impl_Poset_count.law Try.underlying3 Try.underlying3 b r0 n _ _ _ rfl hrg ?_ ?_) | go_in)
              · intro _ hl0
                have HLE := Aside0.mk (show impl_Poset_count.Rel D3 (impl_Poset_count.cur d (fun _ => false) rows nx) by rw [← impl_Poset_count.cur_end hl0]; exact HL3.out)
                have MWe := Aside0.mk hrg.owns
                clear hl0 hrg HRG HL3
                go_wp2
                go_roundw
                case rel => exact ⟨j + 1, impl_Poset_count.cur d (fun _ => false) rows nx, n3, D3, by first | rw [e3] | rfl, hj1, HS2, MWe, M3, HLE, ⟨impl_Poset_count.cur_nodup HK2.out FR.out⟩, ⟨by rw [TK.out]; exact impl_Poset_count.cur_keys HT2.out⟩, ⟨by have h1 := HN2.out; have h2 := impl_Poset_count.cur_len (t := d) (left := fun _ => false) (rows := rows) (nx := nx); omega⟩, HB⟩
                case measure => (try simp only [e3]); exact (Nat.sub_lt_sub_left hjl (Nat.lt_succ_self j) : ids.length - (j + 1) < ids.length - j)
              · intro x c wz cnt1 hwx hwc hlx hat hrg1 hltc hg1 hs1 hen
                have hmem : x ∈ rows.map (·.1) := by
                  have h1 := HL.out.1 x
                  rw [Go.Maps.has_true_of_atKey hat] at h1
                  simpa using h1.symm
                have hval : impl_Poset_count.at rows x = c := by
                  have h1 := (HL.out.2.1 x).symm.trans (hat _)
                  injection h1 with h1
                  injection h1
                have M4 := Aside0.mk (M3.out.kept hg1 (fun e => NR.out (by injection e with e; exact e.symm)))
                have B4 := Aside0.mk (pw_below_grown HB.out (some r0) HB.out.size hg1 (fun k_ e => by injection e with e; rw [← e]; exact GR.out))
                have HRG1 := Aside0.mk hrg1
                have LT1 := Aside0.mk (show wz.rangeLeft b r0 < wr.rangeLeft b r0 by rw [hrg1.left_eq, hrg.left_eq]; exact hltc)
                by_cases hc : impl_Poset_count.ok d x = true
                · have HL4 := Aside0.mk (impl_Poset_count.cur_yes (nx := nx) hlx HK.out hmem hval hc)
                  obtain ⟨V, hV⟩ : ∃ V, V = wrap64 (impl_Poset_count.vis (impl_Poset_count.ok d) left rows) := ⟨_, rfl⟩
                  have HLV := Aside0.mk (show D3.atKey (.int .i64 d) (.lit (.int .i64 0)) = .lit (.int .i64 V) by rw [HL3.out.2.1 d, impl_Poset_count.at_cur FR.out, hV])
                  rw [← hV] at HL4
                  have hcb : (Go.bits .andNot .i64 x d == 0) = true := beq_iff_eq.mpr (of_decide_eq_true hc)
                  have hcc : Go.bits .andNot .i64 x d = 0 := of_decide_eq_true hc
                  clear hc hV hmem hval hlx hat hrg1 hg1 hs1 hltc hwx hwc hrg M3 HB HRG
                  have MT := Aside0.mk (impl_Poset_count.tight M4.out)
                  have SZ := Aside0.mk (show Go.Maps.size D3 < maxLen by have h1 := HL3.out.2.2; have h2 := impl_Poset_count.cur_len (t := d) (left := left) (rows := rows) (nx := nx); have h3 := HN2.out; have h4 := HC2.out.1; unfold maxLen; omega)
                  have NB := Aside0.mk (show b ≠ b2 from NE.out)
                  have HL5 := Aside0.mk (impl_Poset_count.Rel.put (x := d) (v := wrap64 (V + c)) M4.out.isMap (M4.out.tidy impl_Poset_count.law) HL3.out impl_Poset_count.cur_split FR.out)
                  go_wp2_with (first | (at_lookup; refine impl_Poset_count.look _ rfl _ _ 85 rfl 3 3 impl_Poset_count.law Try.underlying85 Try.underlying3 (impl_Poset_count.zeroE _) b2 n3 D3 rfl M4.out _ (.int .i64 d) rfl (Go.Maps.keyOf_int_mk Try.underlying3 WFd.out) V HLV.out ?_) | (at_mapUpdate; refine wpList_mapUpdate_own _ rfl _ _ _ 85 rfl 3 3 impl_Poset_count.law Try.underlying85 (plainElem Try.prog 3) b2 (Go.Maps.size D3) D3 rfl MT.out SZ.out _ _ (.int .i64 d) rfl rfl (Go.Maps.keyOf_int_mk Try.underlying3 WFd.out) (.lit (.int .i64 (wrap64 (V + c)))) [] (plainElem_int Try.underlying3 (impl_Poset_count.wf_wrap (V + c))) ?_; intro wy hm6 hg6; have M6 := Aside0.mk hm6; have R6 := Aside0.mk (HRG1.out.kept hg6 (fun e => NB.out (by injection e)) (fun e => NR.out (by injection e))); have B6 := Aside0.mk (pw_below_grown B4.out (some b2) B4.out.size hg6 (fun k_ e => by injection e with e; rw [← e]; exact GB2.out)); clear hm6 hg6; go_frame))
                  go_roundw
                  case rel => exact ⟨_, cnt1, _, _, R6, M6, ⟨by rw [HL4.out]; exact HL5.out⟩, B6⟩
                  case measure => rw [R6.out.left_eq, ← HRG1.out.left_eq]; exact LT1.out
                · have hcb : (Go.bits .andNot .i64 x d == 0) = false := beq_eq_false_iff_ne.mpr (fun e => hc (decide_eq_true e))
                  have HL4 := Aside0.mk (impl_Poset_count.cur_no (nx := nx) hlx HK.out hmem hval (Bool.eq_false_iff.mpr hc))
                  clear hc hmem hval hlx hat hrg1 hg1 hs1 hltc hwx hwc hrg M3 HB HRG
                  go_wp2
                  exact ⟨⟨_, cnt1, n3, D3, HRG1, M4, ⟨by rw [HL4.out]; exact HL3.out⟩, B4⟩, LT1.out⟩
          · have hs := HS.out
            rw [List.drop_of_length_le (by omega)] at hs
            have HS2 := Aside0.mk (show impl_Poset_count.step rows ids [] = nx from hs)
            clear hs HS
            go_wp2
            go_roundw
            case rel => exact ⟨q + 1, nx, b2, n2, D2, rfl, by first | rw [e2] | rfl, hlt, ⟨by rw [← HS2.out]; exact HF2.out⟩, M2, HL2, HK2, HB, GB2⟩
            case measure => (try simp only [e2]); exact (Nat.sub_lt_sub_left hlt (Nat.lt_succ_self q) : M - (q + 1) < M - q)
      · have hf := HF.out
        rw [show M - q = 0 by omega, impl_Poset_count.iter] at hf
        have HF2 := Aside0.mk hf
        clear hf HF
        go_wp2_with (first | (at_range; refine wpList_range_own _ rfl _ 85 rfl 3 3 impl_Poset_count.law Try.underlying85 _ b n D rfl MW.out ?_; intro w0 hrg0 hg0 hs0) | go_in)
        go_frame
        obtain ⟨r0, hr0⟩ : ∃ r0, r0 = wr.heap.size := ⟨_, rfl⟩
        rw [← hr0] at hrg0 ⊢
        have HR0 := Aside0.mk hrg0
        have HB0 := Aside0.mk (pw_below_grown HB.out none HB.out.size hg0 (fun k_ e => by cases e))
        have GR := Aside0.mk (show w1.heap.size ≤ r0 by have := HB.out.size; omega)
        have V0 := Aside0.mk (show (0 : Int) = wrap64 (impl_Poset_count.vis (fun _ => true) (Go.Maps.has D) rows) by rw [(impl_Poset_count.vis_start (fun _ => true) (fun y hy => by rw [HL.out.1 y]; simpa using hy)).1]; unfold wrap64; omega)
        clear hr0 hrg0 hg0 hs0 MW HB
        go_loopw [12, 14] (fun v12 _ wk => ∃ (left : Lit → Bool) (cnt : Nat), v12 = .int .i64 (wrap64 (impl_Poset_count.vis (fun _ => true) left rows)) ∧ Aside0 (wk.ranges Try.prog 3 (plainElem Try.prog 3) b r0 n D left cnt) ∧ Aside0 (Below w1.heap.size w1 wk)) (fun _ _ wk => wk.rangeLeft b r0)
        case atStart => exact ⟨_, _, by rw [← V0.out], HR0, HB0⟩
        case round =>
          clear HR0 HB0
          obtain ⟨left, cnt, rfl, HRG, HB⟩ := hrel
          have hrg := HRG.out
          go_wp2_with (first | (at_next; refine wpList_next_ranges_ii _ rfl _ rfl 3 3 .i64 .i64 impl_Poset_count.law Try.underlying3 Try.underlying3 b r0 n _ _ _ rfl hrg ?_ ?_) | go_in)
          · intro _ hl0
            have e : left = fun _ => false := funext hl0
            subst e
            have HFF := Aside0.mk (show wrap64 (impl_Poset_count.vis (fun _ => true) (fun _ => false) rows) = r from HF2.out)
            clear hl0 hrg HRG
            go_wp2
            go_ret
            exact ⟨by rw [HFF.out]; rfl, below_to (below_to (Below.refl _ _) B1.out) HB.out⟩
          · intro x c wz cnt1 hwx hwc hlx hat hrg1 hltc hg1 hs1 hen
            have hmem : x ∈ rows.map (·.1) := by
              have h1 := HL.out.1 x
              rw [Go.Maps.has_true_of_atKey hat] at h1
              simpa using h1.symm
            have hval : impl_Poset_count.at rows x = c := by
              have h1 := (HL.out.2.1 x).symm.trans (hat _)
              injection h1 with h1
              injection h1
            have B4 := Aside0.mk (pw_below_grown HB.out (some r0) HB.out.size hg1 (fun k_ e => by injection e with e; rw [← e]; exact GR.out))
            have HRG1 := Aside0.mk hrg1
            have LT1 := Aside0.mk (show wz.rangeLeft b r0 < wr.rangeLeft b r0 by rw [hrg1.left_eq, hrg.left_eq]; exact hltc)
            have HV := Aside0.mk (show wrap64 (impl_Poset_count.vis (fun _ => true) (fun z => left z && !z.sameKey (.int .i64 x)) rows) = wrap64 (wrap64 (impl_Poset_count.vis (fun _ => true) left rows) + c) by rw [(impl_Poset_count.vis_in (fun _ => true) left x c hlx rows HK.out hmem hval).1, if_pos rfl, impl_Poset_count.wrap_add])
            clear hmem hval hlx hat hrg1 hg1 hs1 hltc hwx hwc hrg HB HRG
            obtain ⟨V, hV⟩ : ∃ V, V = wrap64 (impl_Poset_count.vis (fun _ => true) left rows) := ⟨_, rfl⟩
            rw [← hV] at HV ⊢
            clear hV
            go_wp2
            exact ⟨⟨_, cnt1, by rw [HV.out], HRG1, B4⟩, LT1.out⟩
  · cases h
end Go.Proofs.Ytioibkdjcmkcpaa.L
end
section
namespace Go.Proofs.Ytioibkdjcmkcpaa.L
open Go.RowKit Go.Proofs.YtioibkdjcmkcpaaW.PrintWords Go.Proofs.YtioibkdjcmkcpaaW.PrintLast Go.Proofs.YtioibkdjcmkcpaaW.PrintMore
attribute [local go_sem] max2_int min2_int max_two min_two max_three min_three max_four min_four
set_option linter.unusedVariables false
set_option linter.unusedSimpArgs false
def impl_CountArrays.f (k : Nat) (l0_0 : List Int) (a1 : Int) : Option (Int × Bool) := (impl_isHigh.f k l0_0 a1).bind fun t709 => (if t709 = true then ((impl_Poset_n.f l0_0).bind fun t710 => (if t710 > 6 then (some (0, false)) else ((impl_Poset_count.f k l0_0 a1).bind fun t711 => (some (t711, true))))) else (some (0, false)))
theorem impl_CountArrays.mono : ∀ a0 a1 k, LeO (impl_CountArrays.f k a0 a1) (impl_CountArrays.f (k + 1) a0 a1) := by
  intro a0 a1 k
  unfold impl_CountArrays.f
  repeat' first
      | (with_reducible exact impl_Poset_count.mono _ _ _)
      | (with_reducible exact impl_isHigh.mono _ _ _)
      | (with_reducible exact LeO.refl _)
      | (with_reducible exact LeO.none _)
      | (with_reducible refine LeO.ite ?_ ?_)
      | (with_reducible refine LeO.bind ?_ (fun _ => ?_))
      | exact impl_Poset_count.mono _ _ _
      | exact impl_isHigh.mono _ _ _
      | exact LeO.none _
      | refine LeO.ite ?_ ?_
      | refine LeO.bind ?_ (fun _ => ?_)
set_option maxHeartbeats 8000000 in
set_option maxRecDepth 100000 in
theorem impl_CountArrays.calls (k : Nat) (A0_0 : Option Addr) (c0_0 : Nat) (l0_0 : List Int) (a1 : Int) (r1 : Int) (r2 : Bool) (w : World) (hr0_0 : Kd.C (Kd.int .i64) w A0_0 l0_0.length l0_0) (hc0_0 : l0_0.length ≤ c0_0) (h : impl_CountArrays.f k l0_0 a1 = some (r1, r2)) :
    Calls Try.prog 40 #[.agg #[.slice A0_0 l0_0.length c0_0], .int .i64 a1] w fun e w' => e = .returned (.tuple #[.int .i64 r1, .bool r2]) ∧ Below w.heap.size w w' := by
  have hu28 := Try.underlying28
  have HR0_0 := Aside0.mk hr0_0
  have HC0_0 := Aside0.mk hc0_0
  clear hr0_0 hc0_0
  have HB := Aside0.mk (Below.refl w.heap.size w)
  have H : ((impl_isHigh.f k l0_0 a1).bind fun t709 => (if t709 = true then ((impl_Poset_n.f l0_0).bind fun t710 => (if t710 > 6 then (some (0, false)) else ((impl_Poset_count.f k l0_0 a1).bind fun t711 => (some (t711, true))))) else (some (0, false)))) = some (r1, r2) := h
  clear h
  replace H := Option.bind_eq_some_iff.mp H
  obtain ⟨t709, A30, H⟩ := H
  replace H : (if t709 = true then ((impl_Poset_n.f l0_0).bind fun t710 => (if t710 > 6 then (some (0, false)) else ((impl_Poset_count.f k l0_0 a1).bind fun t711 => (some (t711, true))))) else (some (0, false))) = some (r1, r2) := H
  have A3 := Aside0.mk A30
  clear A30
  by_cases c4 : t709 = true
  · subst c4
    have H1 : ((impl_Poset_n.f l0_0).bind fun t710 => (if t710 > 6 then (some (0, false)) else ((impl_Poset_count.f k l0_0 a1).bind fun t711 => (some (t711, true))))) = some (r1, r2) := by rw [if_pos rfl] at H; exact H
    clear H
    have H := H1
    clear H1
    replace H := Option.bind_eq_some_iff.mp H
    obtain ⟨t710, A50, H⟩ := H
    replace H : (if t710 > 6 then (some (0, false)) else ((impl_Poset_count.f k l0_0 a1).bind fun t711 => (some (t711, true)))) = some (r1, r2) := H
    have A5 := Aside0.mk A50
    clear A50
    by_cases c6 : t710 > 6
    · rw [if_pos c6] at H
      have c6b0 : decide (6 < t710) = true := decide_eq_true c6
      clear c6
      simp only [Option.some.injEq, Prod.mk.injEq] at H
      obtain ⟨rfl, rfl⟩ := H
      go_enter Try.func40, Try.ntmps40
      go_wp2_with (first | ((with_reducible refine gate_dst (N := 2) rfl ?_); refine box_event ?hg (N := 2) ?hd (cs := #[.slice A0_0 l0_0.length c0_0]) (t := 28) ?hr ?_; (case hd => rfl); (case hg => rfl); (case hr => first | (go_simp; done) | (go_simp; rfl)); intro gb708 hg w7 hbox hb; have n0_ := Aside0.mk (below_step (by repeat (first | (with_reducible first | exact HB.out | apply below_alloc | apply pw_below_drewN | apply below_drew1) | exact HB.out)) hb); have n1_ := Aside0.mk (hbox); have n2_ := Aside0.mk ((by rw [hg]; exact (below_size (by repeat (first | (with_reducible first | exact HB.out | apply below_alloc | apply pw_below_drewN | apply below_drew1) | exact HB.out))) : w.heap.size ≤ gb708)); have n3_ := Aside0.mk ((by rw [hg]; exact (below_size (by repeat (first | (with_reducible first | exact HB.out | apply below_alloc | apply pw_below_drewN | apply below_drew1) | exact HB.out))) : w.heap.size ≤ gb708)); clear HB; have HB := n0_; have BK708 := n1_; have GW708 := n2_; have GE708 := n3_; clear n0_ n1_ n2_ n3_; clear hb hbox hg; have hcz8_0 : w7.cell? ⟨gb708, 0, none⟩ = some (.slice A0_0 l0_0.length c0_0) := (blk_cell BK708.out 0).trans rfl; have hfz8_0 := blk_frozen BK708.out 0) | ((with_reducible refine gate_callee (f := 51) rfl ?_); refine goesL_ (some 8) rfl rfl Try.func51 (by kernel_rfl) rfl #[.agg #[.slice A0_0 l0_0.length c0_0], .int .i64 a1] rfl (by (try simp only [List.map_toArray, List.map_cons, List.map_nil]); first | done | rfl | (simp only [List.length_drop, List.length_take]; rfl)) ?_; (with_reducible refine (impl_isHigh.calls k _ _ l0_0 a1 true _ ?side1 ?side2 A3.out).mono ?_); (case side1 => repeat (first | exact (Kd.C_below HR0_0.out HB.out) | (with_reducible refine Kd.C_alloc ?_ _) | (with_reducible refine Kd.C_drewN ?_ _) | (with_reducible refine Kd.C_drew ?_))); (case side2 => exact HC0_0.out); rintro e w9 ⟨rfl, hb⟩; refine ⟨_, rfl, ?_⟩; have n0_ := Aside0.mk (blk_below (g := gb708) (o := .cells #[.slice A0_0 l0_0.length c0_0] 28 (0, 0)) (by (with_reducible repeat (first | refine blk_drewN ?_ _ | refine blk_drew ?_ | refine blk_alloc ?_ _)); exact BK708.out) hb); have n1_ := Aside0.mk (below_step (by repeat (first | (with_reducible first | exact HB.out | apply below_alloc | apply pw_below_drewN | apply below_drew1 | refine below_set ?_ GE708.out) | exact HB.out)) hb); clear BK708; clear HB; have BK708 := n0_; have HB := n1_; clear n0_ n1_; (try clear hb); (try clear hb2); (try clear hk); (try clear hi); have hcz10_0 : w9.cell? ⟨gb708, 0, none⟩ = some (.slice A0_0 l0_0.length c0_0) := (blk_cell BK708.out 0).trans rfl; have hfz10_0 := blk_frozen BK708.out 0) | (go_at_call 52; (with_reducible refine (impl_Poset_n.calls _ _ l0_0 t710 _ ?side1 ?side2 A5.out).mono ?_); (case side1 => repeat (first | exact (Kd.C_below HR0_0.out HB.out) | (with_reducible refine Kd.C_alloc ?_ _) | (with_reducible refine Kd.C_drewN ?_ _) | (with_reducible refine Kd.C_drew ?_))); (case side2 => exact HC0_0.out); rintro e w11 ⟨rfl, hb⟩; have n0_ := Aside0.mk (blk_below (g := gb708) (o := .cells #[.slice A0_0 l0_0.length c0_0] 28 (0, 0)) (by (with_reducible repeat (first | refine blk_drewN ?_ _ | refine blk_drew ?_ | refine blk_alloc ?_ _)); exact BK708.out) hb); have n1_ := Aside0.mk (below_step (by repeat (first | (with_reducible first | exact HB.out | apply below_alloc | apply pw_below_drewN | apply below_drew1 | refine below_set ?_ GE708.out) | exact HB.out)) hb); clear BK708; clear HB; have BK708 := n0_; have HB := n1_; clear n0_ n1_; (try clear hb); (try clear hb2); (try clear hk); (try clear hi)))
      go_ret2
      exact ⟨by first | rfl | (simp [errW_none, errW_some] <;> rfl) | (simp [*, errW_none, errW_some] <;> rfl), by repeat (first | (with_reducible first | exact HB.out | apply below_alloc | apply pw_below_drewN | apply below_drew1 | refine below_set ?_ GE708.out) | exact HB.out)⟩
    · rw [if_neg c6] at H
      have c6b0 : decide (6 < t710) = false := decide_eq_false c6
      clear c6
      replace H := Option.bind_eq_some_iff.mp H
      obtain ⟨t711, A120, H⟩ := H
      replace H : (some (t711, true)) = some (r1, r2) := H
      have A12 := Aside0.mk A120
      clear A120
      simp only [Option.some.injEq, Prod.mk.injEq] at H
      obtain ⟨rfl, rfl⟩ := H
      go_enter Try.func40, Try.ntmps40
      go_wp2_with (first | ((with_reducible refine gate_dst (N := 2) rfl ?_); refine box_event ?hg (N := 2) ?hd (cs := #[.slice A0_0 l0_0.length c0_0]) (t := 28) ?hr ?_; (case hd => rfl); (case hg => rfl); (case hr => first | (go_simp; done) | (go_simp; rfl)); intro gb708 hg w13 hbox hb; have n0_ := Aside0.mk (below_step (by repeat (first | (with_reducible first | exact HB.out | apply below_alloc | apply pw_below_drewN | apply below_drew1) | exact HB.out)) hb); have n1_ := Aside0.mk (hbox); have n2_ := Aside0.mk ((by rw [hg]; exact (below_size (by repeat (first | (with_reducible first | exact HB.out | apply below_alloc | apply pw_below_drewN | apply below_drew1) | exact HB.out))) : w.heap.size ≤ gb708)); have n3_ := Aside0.mk ((by rw [hg]; exact (below_size (by repeat (first | (with_reducible first | exact HB.out | apply below_alloc | apply pw_below_drewN | apply below_drew1) | exact HB.out))) : w.heap.size ≤ gb708)); clear HB; have HB := n0_; have BK708 := n1_; have GW708 := n2_; have GE708 := n3_; clear n0_ n1_ n2_ n3_; clear hb hbox hg; have hcz14_0 : w13.cell? ⟨gb708, 0, none⟩ = some (.slice A0_0 l0_0.length c0_0) := (blk_cell BK708.out 0).trans rfl; have hfz14_0 := blk_frozen BK708.out 0) | ((with_reducible refine gate_callee (f := 51) rfl ?_); refine goesL_ (some 8) rfl rfl Try.func51 (by kernel_rfl) rfl #[.agg #[.slice A0_0 l0_0.length c0_0], .int .i64 a1] rfl (by (try simp only [List.map_toArray, List.map_cons, List.map_nil]); first | done | rfl | (simp only [List.length_drop, List.length_take]; rfl)) ?_; (with_reducible refine (impl_isHigh.calls k _ _ l0_0 a1 true _ ?side1 ?side2 A3.out).mono ?_); (case side1 => repeat (first | exact (Kd.C_below HR0_0.out HB.out) | (with_reducible refine Kd.C_alloc ?_ _) | (with_reducible refine Kd.C_drewN ?_ _) | (with_reducible refine Kd.C_drew ?_))); (case side2 => exact HC0_0.out); rintro e w15 ⟨rfl, hb⟩; refine ⟨_, rfl, ?_⟩; have n0_ := Aside0.mk (blk_below (g := gb708) (o := .cells #[.slice A0_0 l0_0.length c0_0] 28 (0, 0)) (by (with_reducible repeat (first | refine blk_drewN ?_ _ | refine blk_drew ?_ | refine blk_alloc ?_ _)); exact BK708.out) hb); have n1_ := Aside0.mk (below_step (by repeat (first | (with_reducible first | exact HB.out | apply below_alloc | apply pw_below_drewN | apply below_drew1 | refine below_set ?_ GE708.out) | exact HB.out)) hb); clear BK708; clear HB; have BK708 := n0_; have HB := n1_; clear n0_ n1_; (try clear hb); (try clear hb2); (try clear hk); (try clear hi); have hcz16_0 : w15.cell? ⟨gb708, 0, none⟩ = some (.slice A0_0 l0_0.length c0_0) := (blk_cell BK708.out 0).trans rfl; have hfz16_0 := blk_frozen BK708.out 0) | (go_at_call 52; (with_reducible refine (impl_Poset_n.calls _ _ l0_0 t710 _ ?side1 ?side2 A5.out).mono ?_); (case side1 => repeat (first | exact (Kd.C_below HR0_0.out HB.out) | (with_reducible refine Kd.C_alloc ?_ _) | (with_reducible refine Kd.C_drewN ?_ _) | (with_reducible refine Kd.C_drew ?_))); (case side2 => exact HC0_0.out); rintro e w17 ⟨rfl, hb⟩; have n0_ := Aside0.mk (blk_below (g := gb708) (o := .cells #[.slice A0_0 l0_0.length c0_0] 28 (0, 0)) (by (with_reducible repeat (first | refine blk_drewN ?_ _ | refine blk_drew ?_ | refine blk_alloc ?_ _)); exact BK708.out) hb); have n1_ := Aside0.mk (below_step (by repeat (first | (with_reducible first | exact HB.out | apply below_alloc | apply pw_below_drewN | apply below_drew1 | refine below_set ?_ GE708.out) | exact HB.out)) hb); clear BK708; clear HB; have BK708 := n0_; have HB := n1_; clear n0_ n1_; (try clear hb); (try clear hb2); (try clear hk); (try clear hi); have hcz18_0 : w17.cell? ⟨gb708, 0, none⟩ = some (.slice A0_0 l0_0.length c0_0) := (blk_cell BK708.out 0).trans rfl; have hfz18_0 := blk_frozen BK708.out 0) | ((with_reducible refine gate_callee (f := 93) rfl ?_); refine goesL_ (some 17) rfl rfl Try.func93 (by kernel_rfl) rfl #[.agg #[.slice A0_0 l0_0.length c0_0], .int .i64 a1] rfl (by (try simp only [List.map_toArray, List.map_cons, List.map_nil]); first | done | rfl | (simp only [List.length_drop, List.length_take]; rfl)) ?_; (with_reducible refine (impl_Poset_count.calls k _ _ l0_0 a1 t711 _ ?side1 ?side2 A12.out).mono ?_); (case side1 => repeat (first | exact (Kd.C_below HR0_0.out HB.out) | (with_reducible refine Kd.C_alloc ?_ _) | (with_reducible refine Kd.C_drewN ?_ _) | (with_reducible refine Kd.C_drew ?_))); (case side2 => exact HC0_0.out); rintro e w19 ⟨rfl, hb⟩; refine ⟨_, rfl, ?_⟩; have n0_ := Aside0.mk (blk_below (g := gb708) (o := .cells #[.slice A0_0 l0_0.length c0_0] 28 (0, 0)) (by (with_reducible repeat (first | refine blk_drewN ?_ _ | refine blk_drew ?_ | refine blk_alloc ?_ _)); exact BK708.out) hb); have n1_ := Aside0.mk (below_step (by repeat (first | (with_reducible first | exact HB.out | apply below_alloc | apply pw_below_drewN | apply below_drew1 | refine below_set ?_ GE708.out) | exact HB.out)) hb); clear BK708; clear HB; have BK708 := n0_; have HB := n1_; clear n0_ n1_; (try clear hb); (try clear hb2); (try clear hk); (try clear hi)))
      go_ret2
      exact ⟨by first | rfl | (simp [errW_none, errW_some] <;> rfl) | (simp [*, errW_none, errW_some] <;> rfl), by repeat (first | (with_reducible first | exact HB.out | apply below_alloc | apply pw_below_drewN | apply below_drew1 | refine below_set ?_ GE708.out) | exact HB.out)⟩
  · replace c4 := Bool.eq_false_iff.mpr c4
    subst c4
    have H1 : (some (0, false)) = some (r1, r2) := by rw [if_neg (show ¬ (false = true) by decide)] at H; exact H
    clear H
    have H := H1
    clear H1
    simp only [Option.some.injEq, Prod.mk.injEq] at H
    obtain ⟨rfl, rfl⟩ := H
    go_enter Try.func40, Try.ntmps40
    go_wp2_with (first | ((with_reducible refine gate_dst (N := 2) rfl ?_); refine box_event ?hg (N := 2) ?hd (cs := #[.slice A0_0 l0_0.length c0_0]) (t := 28) ?hr ?_; (case hd => rfl); (case hg => rfl); (case hr => first | (go_simp; done) | (go_simp; rfl)); intro gb708 hg w20 hbox hb; have n0_ := Aside0.mk (below_step (by repeat (first | (with_reducible first | exact HB.out | apply below_alloc | apply pw_below_drewN | apply below_drew1) | exact HB.out)) hb); have n1_ := Aside0.mk (hbox); have n2_ := Aside0.mk ((by rw [hg]; exact (below_size (by repeat (first | (with_reducible first | exact HB.out | apply below_alloc | apply pw_below_drewN | apply below_drew1) | exact HB.out))) : w.heap.size ≤ gb708)); have n3_ := Aside0.mk ((by rw [hg]; exact (below_size (by repeat (first | (with_reducible first | exact HB.out | apply below_alloc | apply pw_below_drewN | apply below_drew1) | exact HB.out))) : w.heap.size ≤ gb708)); clear HB; have HB := n0_; have BK708 := n1_; have GW708 := n2_; have GE708 := n3_; clear n0_ n1_ n2_ n3_; clear hb hbox hg; have hcz21_0 : w20.cell? ⟨gb708, 0, none⟩ = some (.slice A0_0 l0_0.length c0_0) := (blk_cell BK708.out 0).trans rfl; have hfz21_0 := blk_frozen BK708.out 0) | ((with_reducible refine gate_callee (f := 51) rfl ?_); refine goesL_ (some 8) rfl rfl Try.func51 (by kernel_rfl) rfl #[.agg #[.slice A0_0 l0_0.length c0_0], .int .i64 a1] rfl (by (try simp only [List.map_toArray, List.map_cons, List.map_nil]); first | done | rfl | (simp only [List.length_drop, List.length_take]; rfl)) ?_; (with_reducible refine (impl_isHigh.calls k _ _ l0_0 a1 false _ ?side1 ?side2 A3.out).mono ?_); (case side1 => repeat (first | exact (Kd.C_below HR0_0.out HB.out) | (with_reducible refine Kd.C_alloc ?_ _) | (with_reducible refine Kd.C_drewN ?_ _) | (with_reducible refine Kd.C_drew ?_))); (case side2 => exact HC0_0.out); rintro e w22 ⟨rfl, hb⟩; refine ⟨_, rfl, ?_⟩; have n0_ := Aside0.mk (blk_below (g := gb708) (o := .cells #[.slice A0_0 l0_0.length c0_0] 28 (0, 0)) (by (with_reducible repeat (first | refine blk_drewN ?_ _ | refine blk_drew ?_ | refine blk_alloc ?_ _)); exact BK708.out) hb); have n1_ := Aside0.mk (below_step (by repeat (first | (with_reducible first | exact HB.out | apply below_alloc | apply pw_below_drewN | apply below_drew1 | refine below_set ?_ GE708.out) | exact HB.out)) hb); clear BK708; clear HB; have BK708 := n0_; have HB := n1_; clear n0_ n1_; (try clear hb); (try clear hb2); (try clear hk); (try clear hi)))
    go_ret2
    exact ⟨by first | rfl | (simp [errW_none, errW_some] <;> rfl) | (simp [*, errW_none, errW_some] <;> rfl), by repeat (first | (with_reducible first | exact HB.out | apply below_alloc | apply pw_below_drewN | apply below_drew1 | refine below_set ?_ GE708.out) | exact HB.out)⟩
end Go.Proofs.Ytioibkdjcmkcpaa.L
end
