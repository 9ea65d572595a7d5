/- Laws about the given program: the law FnExactGyrationLengths answers true for every input that its row lets in; no condition is added to the given statement. Contracts of the Go functions that it reaches, and the plain proof over lists. -/
import Derived.Test.YtpdgiinedbdamaaWFnExactGyrationLengths0
import Derived.Test.YtpdgiinedbdamaaKFnExactGyrationLengths0
import Derived.Test.YtpdgiinedbdamaaKFnExactGyrationLengths1
import Derived.Test.YtpdgiinedbdamaaKFnExactGyrationLengths2
import Derived.Test.YtpdgiinedbdamaaKFnExactGyrationLengths3
import Derived.Test.YtpdgiinedbdamaaKFnExactGyrationLengths4
import Derived.Test.YtpdgiinedbdamaaKFnExactGyrationLengths5
import Derived.Test.YtpdgiinedbdamaaKFnExactGyrationLengths6
import Derived.Test.YtpdgiinedbdamaaKFnExactGyrationLengths7
import Derived.Test.YtpdgiinedbdamaaKFnExactGyrationLengths8
import Derived.Test.YtpdgiinedbdamaaKFnExactGyrationLengths9
section
namespace Go.Proofs.Ytpdgiinedbdamaa.L
open Go.RowKit Go.Proofs.YtpdgiinedbdamaaW.PrintWords Go.Proofs.YtpdgiinedbdamaaW.PrintLast Go.Proofs.YtpdgiinedbdamaaW.PrintMore
attribute [local go_sem] max2_int min2_int max_two min_two max_three min_three max_four min_four
set_option linter.unusedVariables false
set_option linter.unusedSimpArgs false
def impl_GyrateIdeal.f (k : Nat) (l0_0 : List Int) (a1 : Int) : Option (Int × Bool) := (impl_isRankedIdeal.f k l0_0 a1).bind fun t312 => (if t312 = true then ((impl_Poset_gyration.f k l0_0).bind fun t313 => ((impl_Poset_toggleRanks.f k l0_0 a1 t313).bind fun t316 => (some (t316, true)))) else (some (0, false)))
theorem impl_GyrateIdeal.mono : ∀ a0 a1 k, LeO (impl_GyrateIdeal.f k a0 a1) (impl_GyrateIdeal.f (k + 1) a0 a1) := by
  intro a0 a1 k
  unfold impl_GyrateIdeal.f
  repeat' first
      | (with_reducible exact impl_Poset_gyration.mono _ _)
      | (with_reducible exact impl_Poset_toggleRanks.mono _ _ _ _)
      | (with_reducible exact impl_isRankedIdeal.mono _ _ _)
      | (with_reducible exact LeO.refl _)
      | (with_reducible exact LeO.none _)
      | (with_reducible refine LeO.ite ?_ ?_)
      | (with_reducible refine LeO.bind ?_ (fun _ => ?_))
      | exact impl_Poset_gyration.mono _ _
      | exact impl_Poset_toggleRanks.mono _ _ _ _
      | exact impl_isRankedIdeal.mono _ _ _
      | exact LeO.none _
      | refine LeO.ite ?_ ?_
      | refine LeO.bind ?_ (fun _ => ?_)
set_option maxHeartbeats 8000000 in
set_option maxRecDepth 100000 in
theorem impl_GyrateIdeal.calls (k : Nat) (A0_0 : Option Addr) (c0_0 : Nat) (l0_0 : List Int) (a1 : Int) (r1 : Int) (r2 : Bool) (w : World) (hr0_0 : Kd.C (Kd.int .i64) w A0_0 l0_0.length l0_0) (hc0_0 : l0_0.length ≤ c0_0) (h : impl_GyrateIdeal.f k l0_0 a1 = some (r1, r2)) :
    Calls Try.prog 17 #[.agg #[.slice A0_0 l0_0.length c0_0], .int .i64 a1] w fun e w' => e = .returned (.tuple #[.int .i64 r1, .bool r2]) ∧ Below w.heap.size w w' := by
  have hu28 := Try.underlying28
  have HR0_0 := Aside0.mk hr0_0
  have HC0_0 := Aside0.mk hc0_0
  clear hr0_0 hc0_0
  have HB := Aside0.mk (Below.refl w.heap.size w)
  have H : ((impl_isRankedIdeal.f k l0_0 a1).bind fun t312 => (if t312 = true then ((impl_Poset_gyration.f k l0_0).bind fun t313 => ((impl_Poset_toggleRanks.f k l0_0 a1 t313).bind fun t316 => (some (t316, true)))) else (some (0, false)))) = some (r1, r2) := h
  clear h
  replace H := Option.bind_eq_some_iff.mp H
  obtain ⟨t312, A30, H⟩ := H
  replace H : (if t312 = true then ((impl_Poset_gyration.f k l0_0).bind fun t313 => ((impl_Poset_toggleRanks.f k l0_0 a1 t313).bind fun t316 => (some (t316, true)))) else (some (0, false))) = some (r1, r2) := H
  have A3 := Aside0.mk A30
  clear A30
  by_cases c4 : t312 = true
  · subst c4
    have H1 : ((impl_Poset_gyration.f k l0_0).bind fun t313 => ((impl_Poset_toggleRanks.f k l0_0 a1 t313).bind fun t316 => (some (t316, true)))) = some (r1, r2) := by rw [if_pos rfl] at H; exact H
    clear H
    have H := H1
    clear H1
    replace H := Option.bind_eq_some_iff.mp H
    obtain ⟨t313, A50, H⟩ := H
    replace H : ((impl_Poset_toggleRanks.f k l0_0 a1 t313).bind fun t316 => (some (t316, true))) = some (r1, r2) := H
    have A5 := Aside0.mk A50
    clear A50
    replace H := Option.bind_eq_some_iff.mp H
    obtain ⟨t316, A60, H⟩ := H
    replace H : (some (t316, true)) = some (r1, r2) := H
    have A6 := Aside0.mk A60
    clear A60
    simp only [Option.some.injEq, Prod.mk.injEq] at H
    obtain ⟨rfl, rfl⟩ := H
    go_enter Try.func17, Try.ntmps17
    try go_wp2_with (first | ((with_reducible refine gate_dst (N := 2) rfl ?_); refine box_event ?hg (N := 2) ?hd (cs := #[.slice A0_0 l0_0.length c0_0]) (t := 28) ?hr ?_; (case hd => rfl); (case hg => rfl); (case hr => first | (go_simp; done) | (go_simp; rfl)); intro gb311 hg w7 hbox hb; have n0_ := Aside0.mk (below_step (by repeat (first | (with_reducible first | exact HB.out | apply below_alloc | apply pw_below_drewN | apply below_drew1) | exact HB.out)) hb); have n1_ := Aside0.mk (hbox); have n2_ := Aside0.mk ((by rw [hg]; exact (below_size (by repeat (first | (with_reducible first | exact HB.out | apply below_alloc | apply pw_below_drewN | apply below_drew1) | exact HB.out))) : w.heap.size ≤ gb311)); have n3_ := Aside0.mk ((by rw [hg]; exact (below_size (by repeat (first | (with_reducible first | exact HB.out | apply below_alloc | apply pw_below_drewN | apply below_drew1) | exact HB.out))) : w.heap.size ≤ gb311)); clear HB; have HB := n0_; have BK311 := n1_; have GW311 := n2_; have GE311 := n3_; clear n0_ n1_ n2_ n3_; clear hb hbox hg; have hcz8_0 : w7.cell? ⟨gb311, 0, none⟩ = some (.slice A0_0 l0_0.length c0_0) := (blk_cell BK311.out 0).trans rfl; have hfz8_0 := blk_frozen BK311.out 0) | ((with_reducible refine gate_callee (f := 50) rfl ?_); refine goesL_ (some 8) rfl rfl Try.func50 (by kernel_rfl) rfl #[.agg #[.slice A0_0 l0_0.length c0_0], .int .i64 a1] rfl (by (try simp only [List.map_toArray, List.map_cons, List.map_nil]); first | done | rfl | (simp only [List.length_drop, List.length_take]; rfl)) ?_; (with_reducible refine (impl_isRankedIdeal.calls k _ _ l0_0 a1 true _ ?side1 ?side2 A3.out).mono ?_); (case side1 => repeat (first | exact (Kd.C_below HR0_0.out HB.out) | (with_reducible refine Kd.C_alloc ?_ _) | (with_reducible refine Kd.C_drewN ?_ _) | (with_reducible refine Kd.C_drew ?_))); (case side2 => exact HC0_0.out); rintro e w9 ⟨rfl, hb⟩; refine ⟨_, rfl, ?_⟩; have n0_ := Aside0.mk (blk_below (g := gb311) (o := .cells #[.slice A0_0 l0_0.length c0_0] 28 (0, 0)) (by (with_reducible repeat (first | refine blk_drewN ?_ _ | refine blk_drew ?_ | refine blk_alloc ?_ _)); exact BK311.out) hb); have n1_ := Aside0.mk (below_step (by repeat (first | (with_reducible first | exact HB.out | apply below_alloc | apply pw_below_drewN | apply below_drew1 | refine below_set ?_ GE311.out) | exact HB.out)) hb); clear BK311; clear HB; have BK311 := n0_; have HB := n1_; clear n0_ n1_; (try clear hb); (try clear hb2); (try clear hk); (try clear hi)))
    have n0_ := Aside0.mk (blk_drew BK311.out)
    have n1_ := Aside0.mk (below_drew1 HB.out)
    clear BK311
    clear HB
    have BK311 := n0_
    have HB := n1_
    clear n0_ n1_
    refine start_ (n := 7) (S := fun w' => w'.cell? ⟨gb311, 0, none⟩ = some (.slice A0_0 l0_0.length c0_0)) (ds := []) #[false, false, false, false, false, false, false] (by kernel_rfl) rfl rfl ((blk_cell BK311.out 0).trans rfl) (fun hHeld => ?_)
    generalize w9.drew = w10 at BK311 HB hHeld ⊢
    refine pure_ (i := 1) (N := some 11) (v := ?_) (a' := ?_) #[false, true, false, false, false, false, false] rfl rfl (by kernel_rfl) (fun _ _ _ h => h) (Or.inl ⟨by rfl, ?_⟩) ?_ ?_
    rotate_left
    · intro w'
      go_simp
      with_reducible rfl
    rotate_left
    · simp only [Act.put, List.setIfInBounds_toArray, List.set_cons_zero, List.set_cons_succ, i64_w, i32_w]
      rfl
    refine take_ (i := 0) (N := some 10) (v := ?_) (a' := ?_) #[true, true, false, false, false, false, false] rfl rfl (by kernel_rfl) (fun _ _ _ h => h) (Or.inl ⟨by rfl, ?_⟩) hHeld ?_ ?_
    rotate_left
    · intro w' s0
      go_simp
      with_reducible rfl
    rotate_left
    · simp only [Act.put, List.setIfInBounds_toArray, List.set_cons_zero, List.set_cons_succ, i64_w, i32_w]
      rfl
    refine take_ (i := 2) (N := some 12) (v := ?_) (a' := ?_) #[true, true, true, false, false, false, false] rfl rfl (by kernel_rfl) (fun _ _ _ h => h) (Or.inl ⟨by rfl, ?_⟩) hHeld ?_ ?_
    rotate_left
    · intro w' s0
      go_simp
      with_reducible rfl
    rotate_left
    · simp only [Act.put, List.setIfInBounds_toArray, List.set_cons_zero, List.set_cons_succ, i64_w, i32_w]
      rfl
    refine one_ (i := 3) (N := some 13) #[true, true, true, true, false, false, false] rfl rfl (by kernel_rfl) (by decide) (fun K hK => ?_)
    refine goes_ Try.func52 (by kernel_rfl) rfl #[.agg #[.slice A0_0 l0_0.length c0_0]] (by rfl) rfl rfl (by (try simp only [List.map_toArray, List.map_cons, List.map_nil]); first | done | rfl | (simp only [List.length_drop, List.length_take]; rfl)) ?_
    with_reducible refine (impl_Poset_gyration.calls k _ _ l0_0 t313 _ ?side1 ?side2 A5.out).mono ?_
    (case side1 => repeat (first | exact (Kd.C_below HR0_0.out HB.out) | (with_reducible refine Kd.C_alloc ?_ _) | (with_reducible refine Kd.C_drewN ?_ _) | (with_reducible refine Kd.C_drew ?_)))
    (case side2 => exact HC0_0.out)
    rintro e w11 ⟨v314, rfl, ho0, hb⟩
    refine ⟨_, rfl, ?_⟩
    have n0_ := Aside0.mk (Kd.R_lower ho0 (below_size (by repeat (first | (with_reducible first | exact HB.out | apply below_alloc | apply pw_below_drewN | apply below_drew1 | refine below_set ?_ GE311.out) | exact HB.out))))
    have n1_ := Aside0.mk (blk_below (g := gb311) (o := .cells #[.slice A0_0 l0_0.length c0_0] 28 (0, 0)) (by (with_reducible repeat (first | refine blk_drewN ?_ _ | refine blk_drew ?_ | refine blk_alloc ?_ _)); exact BK311.out) hb)
    have n2_ := Aside0.mk (below_step (by repeat (first | (with_reducible first | exact HB.out | apply below_alloc | apply pw_below_drewN | apply below_drew1 | refine below_set ?_ GE311.out) | exact HB.out)) hb)
    clear BK311
    clear HB
    have HO315 := n0_
    have BK311 := n1_
    have HB := n2_
    clear n0_ n1_ n2_
    (try clear hb)
    (try clear hb2)
    (try clear hk)
    (try clear hi)
    (try clear ho0)
    obtain ⟨Ao12, co12, eo12⟩ := Kd.R_slice HO315.out
    (first | subst eo12 | (injection eo12 with f1_ f2_ f3_; have f4_ := f1_.symm; have f5_ := f3_.symm; clear f1_ f2_ f3_; subst f4_; subst f5_))
    refine hK.out _ _ ((blk_cell BK311.out 0).trans rfl) (fun hHeld => ?_)
    clear hK K
    refine norm_ (a' := ?_) ?_ ?_
    rotate_left
    · show Act.put _ (some 13) _ = _
      simp only [Act.put, List.setIfInBounds_toArray, List.set_cons_zero, List.set_cons_succ, i64_w, i32_w]
      rfl
    refine one_ (i := 4) (N := some 14) #[true, true, true, true, true, false, false] rfl rfl (by kernel_rfl) (by decide) (fun K hK => ?_)
    refine goes_ Try.func51 (by kernel_rfl) rfl #[.agg #[.slice A0_0 l0_0.length c0_0], .int .i64 a1, .slice Ao12 t313.length co12] (by rfl) rfl rfl (by (try simp only [List.map_toArray, List.map_cons, List.map_nil]); first | done | rfl | (simp only [List.length_drop, List.length_take]; rfl)) ?_
    with_reducible refine (impl_Poset_toggleRanks.calls k _ _ l0_0 a1 _ _ t313 t316 _ ?side1 ?side2 ?side3 ?side4 A6.out).mono ?_
    (case side1 => repeat (first | exact (Kd.C_below HR0_0.out HB.out) | (with_reducible refine Kd.C_alloc ?_ _) | (with_reducible refine Kd.C_drewN ?_ _) | (with_reducible refine Kd.C_drew ?_)))
    (case side2 => exact HC0_0.out)
    (case side3 => repeat (first | exact (Kd.R_reads' HO315.out).2.2 | (with_reducible refine Kd.C_alloc ?_ _) | (with_reducible refine Kd.C_drewN ?_ _) | (with_reducible refine Kd.C_drew ?_)))
    (case side4 => exact (Kd.R_reads' HO315.out).2.1)
    rintro e w13 ⟨rfl, hb⟩
    refine ⟨_, rfl, ?_⟩
    have n0_ := Aside0.mk (Kd.R_below (by (with_reducible repeat (first | apply Kd.R_alloc | apply Kd.R_drewN | apply Kd.R_drew)); exact HO315.out) hb)
    have n1_ := Aside0.mk (blk_below (g := gb311) (o := .cells #[.slice A0_0 l0_0.length c0_0] 28 (0, 0)) (by (with_reducible repeat (first | refine blk_drewN ?_ _ | refine blk_drew ?_ | refine blk_alloc ?_ _)); exact BK311.out) hb)
    have n2_ := Aside0.mk (below_step (by repeat (first | (with_reducible first | exact HB.out | apply below_alloc | apply pw_below_drewN | apply below_drew1 | refine below_set ?_ GE311.out) | exact HB.out)) hb)
    clear HO315
    clear BK311
    clear HB
    have HO315 := n0_
    have BK311 := n1_
    have HB := n2_
    clear n0_ n1_ n2_
    (try clear hb)
    (try clear hb2)
    (try clear hk)
    (try clear hi)
    refine hK.out _ _ ((blk_cell BK311.out 0).trans rfl) (fun hHeld => ?_)
    clear hK K
    refine norm_ (a' := ?_) ?_ ?_
    rotate_left
    · show Act.put _ (some 14) _ = _
      simp only [Act.put, List.setIfInBounds_toArray, List.set_cons_zero, List.set_cons_succ, i64_w, i32_w]
      rfl
    refine pure_ (i := 5) (N := some 4) (v := ?_) (a' := ?_) #[true, true, true, true, true, true, false] rfl rfl (by kernel_rfl) (fun _ _ _ h => h) (Or.inl ⟨by rfl, ?_⟩) ?_ ?_
    rotate_left
    · intro w'
      go_simp
      with_reducible rfl
    rotate_left
    · simp only [Act.put, List.setIfInBounds_toArray, List.set_cons_zero, List.set_cons_succ, i64_w, i32_w]
      rfl
    refine pure_ (i := 6) (N := some 5) (v := ?_) (a' := ?_) #[true, true, true, true, true, true, true] rfl rfl (by kernel_rfl) (fun _ _ _ h => h) (Or.inl ⟨by rfl, ?_⟩) ?_ ?_
    rotate_left
    · intro w'
      go_simp
      with_reducible rfl
    rotate_left
    · simp only [Act.put, List.setIfInBounds_toArray, List.set_cons_zero, List.set_cons_succ, i64_w, i32_w]
      rfl
    refine done_ (by kernel_rfl) ?_
    try go_wp2
    go_ret2
    exact ⟨by first | rfl | (simp [errW_none, errW_some] <;> rfl) | (simp [*, errW_none, errW_some] <;> rfl), by repeat (first | (with_reducible first | exact HB.out | apply below_alloc | apply pw_below_drewN | apply below_drew1 | refine below_set ?_ GE311.out) | exact HB.out)⟩
  · replace c4 := Bool.eq_false_iff.mpr c4
    subst c4
    have H1 : (some (0, false)) = some (r1, r2) := by rw [if_neg (show ¬ (false = true) by decide)] at H; exact H
    clear H
    have H := H1
    clear H1
    simp only [Option.some.injEq, Prod.mk.injEq] at H
    obtain ⟨rfl, rfl⟩ := H
    go_enter Try.func17, Try.ntmps17
    go_wp2_with (first | ((with_reducible refine gate_dst (N := 2) rfl ?_); refine box_event ?hg (N := 2) ?hd (cs := #[.slice A0_0 l0_0.length c0_0]) (t := 28) ?hr ?_; (case hd => rfl); (case hg => rfl); (case hr => first | (go_simp; done) | (go_simp; rfl)); intro gb311 hg w14 hbox hb; have n0_ := Aside0.mk (below_step (by repeat (first | (with_reducible first | exact HB.out | apply below_alloc | apply pw_below_drewN | apply below_drew1) | exact HB.out)) hb); have n1_ := Aside0.mk (hbox); have n2_ := Aside0.mk ((by rw [hg]; exact (below_size (by repeat (first | (with_reducible first | exact HB.out | apply below_alloc | apply pw_below_drewN | apply below_drew1) | exact HB.out))) : w.heap.size ≤ gb311)); have n3_ := Aside0.mk ((by rw [hg]; exact (below_size (by repeat (first | (with_reducible first | exact HB.out | apply below_alloc | apply pw_below_drewN | apply below_drew1) | exact HB.out))) : w.heap.size ≤ gb311)); clear HB; have HB := n0_; have BK311 := n1_; have GW311 := n2_; have GE311 := n3_; clear n0_ n1_ n2_ n3_; clear hb hbox hg; have hcz15_0 : w14.cell? ⟨gb311, 0, none⟩ = some (.slice A0_0 l0_0.length c0_0) := (blk_cell BK311.out 0).trans rfl; have hfz15_0 := blk_frozen BK311.out 0) | ((with_reducible refine gate_callee (f := 50) rfl ?_); refine goesL_ (some 8) rfl rfl Try.func50 (by kernel_rfl) rfl #[.agg #[.slice A0_0 l0_0.length c0_0], .int .i64 a1] rfl (by (try simp only [List.map_toArray, List.map_cons, List.map_nil]); first | done | rfl | (simp only [List.length_drop, List.length_take]; rfl)) ?_; (with_reducible refine (impl_isRankedIdeal.calls k _ _ l0_0 a1 false _ ?side1 ?side2 A3.out).mono ?_); (case side1 => repeat (first | exact (Kd.C_below HR0_0.out HB.out) | (with_reducible refine Kd.C_alloc ?_ _) | (with_reducible refine Kd.C_drewN ?_ _) | (with_reducible refine Kd.C_drew ?_))); (case side2 => exact HC0_0.out); rintro e w16 ⟨rfl, hb⟩; refine ⟨_, rfl, ?_⟩; have n0_ := Aside0.mk (blk_below (g := gb311) (o := .cells #[.slice A0_0 l0_0.length c0_0] 28 (0, 0)) (by (with_reducible repeat (first | refine blk_drewN ?_ _ | refine blk_drew ?_ | refine blk_alloc ?_ _)); exact BK311.out) hb); have n1_ := Aside0.mk (below_step (by repeat (first | (with_reducible first | exact HB.out | apply below_alloc | apply pw_below_drewN | apply below_drew1 | refine below_set ?_ GE311.out) | exact HB.out)) hb); clear BK311; clear HB; have BK311 := n0_; have HB := n1_; clear n0_ n1_; (try clear hb); (try clear hb2); (try clear hk); (try clear hi)))
    go_ret2
    exact ⟨by first | rfl | (simp [errW_none, errW_some] <;> rfl) | (simp [*, errW_none, errW_some] <;> rfl), by repeat (first | (with_reducible first | exact HB.out | apply below_alloc | apply pw_below_drewN | apply below_drew1 | refine below_set ?_ GE311.out) | exact HB.out)⟩
end Go.Proofs.Ytpdgiinedbdamaa.L
end
section
namespace Go.Proofs.Ytpdgiinedbdamaa.L
open Go.RowKit Go.Proofs.YtpdgiinedbdamaaW.PrintWords Go.Proofs.YtpdgiinedbdamaaW.PrintLast Go.Proofs.YtpdgiinedbdamaaW.PrintMore
attribute [local go_sem] max2_int min2_int max_two min_two max_three min_three max_four min_four
set_option linter.unusedVariables false
set_option linter.unusedSimpArgs false
def impl_backwards.f (k : Nat) (l0 : List Int) : Option (List Int) := (slices_Clone_int_int.f l0).bind fun t422 => ((slices_Reverse_int_int.f k t422).bind fun t425 => (some t425))
theorem impl_backwards.mono : ∀ a0 k, LeO (impl_backwards.f k a0) (impl_backwards.f (k + 1) a0) := by
  intro a0 k
  unfold impl_backwards.f
  repeat' first
      | (with_reducible exact slices_Reverse_int_int.mono _ _)
      | (with_reducible exact LeO.refl _)
      | (with_reducible exact LeO.none _)
      | (with_reducible refine LeO.ite ?_ ?_)
      | (with_reducible refine LeO.bind ?_ (fun _ => ?_))
      | exact slices_Reverse_int_int.mono _ _
      | exact LeO.none _
      | refine LeO.ite ?_ ?_
      | refine LeO.bind ?_ (fun _ => ?_)
set_option maxHeartbeats 8000000 in
set_option maxRecDepth 100000 in
theorem impl_backwards.calls (k : Nat) (A0 : Option Addr) (c0 : Nat) (l0 : List Int) (r : List Int) (w : World) (hr0 : Kd.C (Kd.int .i64) w A0 l0.length l0) (hc0 : l0.length ≤ c0) (h : impl_backwards.f k l0 = some r) :
    Calls Try.prog 58 #[.slice A0 l0.length c0] w fun e w' => ∃ v0_ : Value, e = .returned (v0_) ∧ Kd.R (Kd.int .i64) 3 w' w.heap.size (fun _ => True) v0_ r ∧ Below w.heap.size w w' := by
  have HR0 := Aside0.mk hr0
  have HC0 := Aside0.mk hc0
  clear hr0 hc0
  have HB := Aside0.mk (Below.refl w.heap.size w)
  have H : ((slices_Clone_int_int.f l0).bind fun t422 => ((slices_Reverse_int_int.f k t422).bind fun t425 => (some t425))) = some r := h
  clear h
  replace H := Option.bind_eq_some_iff.mp H
  obtain ⟨t422, A20, H⟩ := H
  replace H : ((slices_Reverse_int_int.f k t422).bind fun t425 => (some t425)) = some r := H
  have A2 := Aside0.mk A20
  clear A20
  replace H := Option.bind_eq_some_iff.mp H
  obtain ⟨t425, A30, H⟩ := H
  replace H : (some t425) = some r := H
  have A3 := Aside0.mk A30
  clear A30
  obtain rfl := Option.some.inj H
  go_enter Try.func58, Try.ntmps58
  go_wp2_with (first | ((with_reducible refine gate_callee (f := 61) rfl ?_); refine goesL_ (some 5) rfl rfl Try.func61 (by kernel_rfl) rfl #[.slice A0 l0.length c0] rfl (by (try simp only [List.map_toArray, List.map_cons, List.map_nil]); first | done | rfl | (simp only [List.length_drop, List.length_take]; rfl)) ?_; (with_reducible refine (slices_Clone_int_int.calls _ _ l0 t422 _ ?side1 ?side2 A2.out).mono ?_); (case side1 => repeat (first | exact HR0.out | (with_reducible refine Kd.C_alloc ?_ _) | (with_reducible refine Kd.C_drewN ?_ _) | (with_reducible refine Kd.C_drew ?_))); (case side2 => exact HC0.out); rintro e w4 ⟨v423, rfl, ho0, hb⟩; refine ⟨_, rfl, ?_⟩; have n0_ := Aside0.mk (Kd.R_lower ho0 (below_size (by repeat (first | (with_reducible first | exact HB.out | apply below_alloc | apply pw_below_drewN | apply below_drew1) | exact HB.out)))); have n1_ := Aside0.mk (below_step (by repeat (first | (with_reducible first | exact HB.out | apply below_alloc | apply pw_below_drewN | apply below_drew1) | exact HB.out)) hb); clear HB; have HO424 := n0_; have HB := n1_; clear n0_ n1_; (try clear hb); (try clear hb2); (try clear hk); (try clear hi); (try clear ho0); obtain ⟨Ao5, co5, eo5⟩ := Kd.R_slice HO424.out; subst eo5) | ((with_reducible refine gate_callee (f := 112) rfl ?_); refine goesL_ (some 7) rfl rfl Try.func112 (by kernel_rfl) rfl #[.slice Ao5 t422.length co5] rfl (by (try simp only [List.map_toArray, List.map_cons, List.map_nil]); first | done | rfl | (simp only [List.length_drop, List.length_take]; rfl)) ?_; (with_reducible refine (slices_Reverse_int_int.calls k (fun k_ => some k_ = (.slice Ao5 t422.length co5 : Value).ownBlock) (.slice Ao5 t422.length co5) t422 t425 w _ ?side1 ?side2 A3.out).mono ?_); (case side1 => repeat (first | (with_reducible first | exact HB.out | apply below_alloc | apply pw_below_drewN | apply below_drew1) | exact HB.out)); (case side2 => exact Kd.R_tight rfl HO424.out); rintro e w6 ⟨rfl, hy0, hb, hkp⟩; refine ⟨_, rfl, ?_⟩; have n0_ := Aside0.mk (Kd.R_reok rfl hy0 (fun k_ e_ => HO424.out.1 k_ e_)); have n1_ := Aside0.mk (hb); clear HO424; clear HB; have HO424 := n0_; have HB := n1_; clear n0_ n1_; (try clear hb); (try clear hkp); (try clear hy0)))
  go_ret
  exact ⟨_, by first | rfl | (simp [errW_none, errW_some] <;> rfl) | (simp [*, errW_none, errW_some] <;> rfl), by (with_reducible repeat (first | apply Kd.R_alloc | apply Kd.R_drewN | apply Kd.R_drew)); exact HO424.out, by repeat (first | (with_reducible first | exact HB.out | apply below_alloc | apply pw_below_drewN | apply below_drew1) | exact HB.out)⟩
end Go.Proofs.Ytpdgiinedbdamaa.L
end
section
namespace Go.Proofs.Ytpdgiinedbdamaa.L
open Go.RowKit Go.Proofs.YtpdgiinedbdamaaW.PrintWords Go.Proofs.YtpdgiinedbdamaaW.PrintLast Go.Proofs.YtpdgiinedbdamaaW.PrintMore
attribute [local go_sem] max2_int min2_int max_two min_two max_three min_three max_four min_four
set_option linter.unusedVariables false
set_option linter.unusedSimpArgs false
def spec_GyrateBack.f (k : Nat) (l0_0 : List Int) (a1 : Int) : Option (Int × Bool) := (spec_rvIn.f k l0_0 a1).bind fun t613 => (if t613 = true then ((spec_rvGyrate.f k l0_0 a1 true).bind fun t614 => (some (t614, true))) else (some (0, false)))
theorem spec_GyrateBack.mono : ∀ a0 a1 k, LeO (spec_GyrateBack.f k a0 a1) (spec_GyrateBack.f (k + 1) a0 a1) := by
  intro a0 a1 k
  unfold spec_GyrateBack.f
  repeat' first
      | (with_reducible exact spec_rvGyrate.mono _ _ _ _)
      | (with_reducible exact spec_rvIn.mono _ _ _)
      | (with_reducible exact LeO.refl _)
      | (with_reducible exact LeO.none _)
      | (with_reducible refine LeO.ite ?_ ?_)
      | (with_reducible refine LeO.bind ?_ (fun _ => ?_))
      | exact spec_rvGyrate.mono _ _ _ _
      | exact spec_rvIn.mono _ _ _
      | exact LeO.none _
      | refine LeO.ite ?_ ?_
      | refine LeO.bind ?_ (fun _ => ?_)
set_option maxHeartbeats 8000000 in
set_option maxRecDepth 100000 in
theorem spec_GyrateBack.calls (k : Nat) (A0_0 : Option Addr) (c0_0 : Nat) (l0_0 : List Int) (a1 : Int) (r1 : Int) (r2 : Bool) (w : World) (hr0_0 : Kd.C (Kd.int .i64) w A0_0 l0_0.length l0_0) (hc0_0 : l0_0.length ≤ c0_0) (h : spec_GyrateBack.f k l0_0 a1 = some (r1, r2)) :
    Calls Try.prog 32 #[.agg #[.slice A0_0 l0_0.length c0_0], .int .i64 a1] w fun e w' => e = .returned (.tuple #[.int .i64 r1, .bool r2]) ∧ Below w.heap.size w w' := by
  have hu28 := Try.underlying28
  have HR0_0 := Aside0.mk hr0_0
  have HC0_0 := Aside0.mk hc0_0
  clear hr0_0 hc0_0
  have HB := Aside0.mk (Below.refl w.heap.size w)
  have H : ((spec_rvIn.f k l0_0 a1).bind fun t613 => (if t613 = true then ((spec_rvGyrate.f k l0_0 a1 true).bind fun t614 => (some (t614, true))) else (some (0, false)))) = some (r1, r2) := h
  clear h
  replace H := Option.bind_eq_some_iff.mp H
  obtain ⟨t613, A30, H⟩ := H
  replace H : (if t613 = true then ((spec_rvGyrate.f k l0_0 a1 true).bind fun t614 => (some (t614, true))) else (some (0, false))) = some (r1, r2) := H
  have A3 := Aside0.mk A30
  clear A30
  by_cases c4 : t613 = true
  · subst c4
    have H1 : ((spec_rvGyrate.f k l0_0 a1 true).bind fun t614 => (some (t614, true))) = some (r1, r2) := by rw [if_pos rfl] at H; exact H
    clear H
    have H := H1
    clear H1
    replace H := Option.bind_eq_some_iff.mp H
    obtain ⟨t614, A50, H⟩ := H
    replace H : (some (t614, true)) = some (r1, r2) := H
    have A5 := Aside0.mk A50
    clear A50
    simp only [Option.some.injEq, Prod.mk.injEq] at H
    obtain ⟨rfl, rfl⟩ := H
    go_enter Try.func32, Try.ntmps32
    go_wp2_with (first | ((with_reducible refine gate_dst (N := 2) rfl ?_); refine box_event ?hg (N := 2) ?hd (cs := #[.slice A0_0 l0_0.length c0_0]) (t := 28) ?hr ?_; (case hd => rfl); (case hg => rfl); (case hr => first | (go_simp; done) | (go_simp; rfl)); intro gb612 hg w6 hbox hb; have n0_ := Aside0.mk (below_step (by repeat (first | (with_reducible first | exact HB.out | apply below_alloc | apply pw_below_drewN | apply below_drew1) | exact HB.out)) hb); have n1_ := Aside0.mk (hbox); have n2_ := Aside0.mk ((by rw [hg]; exact (below_size (by repeat (first | (with_reducible first | exact HB.out | apply below_alloc | apply pw_below_drewN | apply below_drew1) | exact HB.out))) : w.heap.size ≤ gb612)); have n3_ := Aside0.mk ((by rw [hg]; exact (below_size (by repeat (first | (with_reducible first | exact HB.out | apply below_alloc | apply pw_below_drewN | apply below_drew1) | exact HB.out))) : w.heap.size ≤ gb612)); clear HB; have HB := n0_; have BK612 := n1_; have GW612 := n2_; have GE612 := n3_; clear n0_ n1_ n2_ n3_; clear hb hbox hg; have hcz7_0 : w6.cell? ⟨gb612, 0, none⟩ = some (.slice A0_0 l0_0.length c0_0) := (blk_cell BK612.out 0).trans rfl; have hfz7_0 := blk_frozen BK612.out 0) | ((with_reducible refine gate_callee (f := 48) rfl ?_); refine goesL_ (some 8) rfl rfl Try.func48 (by kernel_rfl) rfl #[.agg #[.slice A0_0 l0_0.length c0_0], .int .i64 a1] rfl (by (try simp only [List.map_toArray, List.map_cons, List.map_nil]); first | done | rfl | (simp only [List.length_drop, List.length_take]; rfl)) ?_; (with_reducible refine (spec_rvIn.calls k _ _ l0_0 a1 true _ ?side1 ?side2 A3.out).mono ?_); (case side1 => repeat (first | exact (Kd.C_below HR0_0.out HB.out) | (with_reducible refine Kd.C_alloc ?_ _) | (with_reducible refine Kd.C_drewN ?_ _) | (with_reducible refine Kd.C_drew ?_))); (case side2 => exact HC0_0.out); rintro e w8 ⟨rfl, hb⟩; refine ⟨_, rfl, ?_⟩; have n0_ := Aside0.mk (blk_below (g := gb612) (o := .cells #[.slice A0_0 l0_0.length c0_0] 28 (0, 0)) (by (with_reducible repeat (first | refine blk_drewN ?_ _ | refine blk_drew ?_ | refine blk_alloc ?_ _)); exact BK612.out) hb); have n1_ := Aside0.mk (below_step (by repeat (first | (with_reducible first | exact HB.out | apply below_alloc | apply pw_below_drewN | apply below_drew1 | refine below_set ?_ GE612.out) | exact HB.out)) hb); clear BK612; clear HB; have BK612 := n0_; have HB := n1_; clear n0_ n1_; (try clear hb); (try clear hb2); (try clear hk); (try clear hi); have hcz9_0 : w8.cell? ⟨gb612, 0, none⟩ = some (.slice A0_0 l0_0.length c0_0) := (blk_cell BK612.out 0).trans rfl; have hfz9_0 := blk_frozen BK612.out 0) | ((with_reducible refine gate_callee (f := 49) rfl ?_); refine goesL_ (some 12) rfl rfl Try.func49 (by kernel_rfl) rfl #[.agg #[.slice A0_0 l0_0.length c0_0], .int .i64 a1, .bool true] rfl (by (try simp only [List.map_toArray, List.map_cons, List.map_nil]); first | done | rfl | (simp only [List.length_drop, List.length_take]; rfl)) ?_; (with_reducible refine (spec_rvGyrate.calls k _ _ l0_0 a1 true t614 _ ?side1 ?side2 A5.out).mono ?_); (case side1 => repeat (first | exact (Kd.C_below HR0_0.out HB.out) | (with_reducible refine Kd.C_alloc ?_ _) | (with_reducible refine Kd.C_drewN ?_ _) | (with_reducible refine Kd.C_drew ?_))); (case side2 => exact HC0_0.out); rintro e w10 ⟨rfl, hb⟩; refine ⟨_, rfl, ?_⟩; have n0_ := Aside0.mk (blk_below (g := gb612) (o := .cells #[.slice A0_0 l0_0.length c0_0] 28 (0, 0)) (by (with_reducible repeat (first | refine blk_drewN ?_ _ | refine blk_drew ?_ | refine blk_alloc ?_ _)); exact BK612.out) hb); have n1_ := Aside0.mk (below_step (by repeat (first | (with_reducible first | exact HB.out | apply below_alloc | apply pw_below_drewN | apply below_drew1 | refine below_set ?_ GE612.out) | exact HB.out)) hb); clear BK612; clear HB; have BK612 := n0_; have HB := n1_; clear n0_ n1_; (try clear hb); (try clear hb2); (try clear hk); (try clear hi)))
    go_ret2
    exact ⟨by first | rfl | (simp [errW_none, errW_some] <;> rfl) | (simp [*, errW_none, errW_some] <;> rfl), by repeat (first | (with_reducible first | exact HB.out | apply below_alloc | apply pw_below_drewN | apply below_drew1 | refine below_set ?_ GE612.out) | exact HB.out)⟩
  · replace c4 := Bool.eq_false_iff.mpr c4
    subst c4
    have H1 : (some (0, false)) = some (r1, r2) := by rw [if_neg (show ¬ (false = true) by decide)] at H; exact H
    clear H
    have H := H1
    clear H1
    simp only [Option.some.injEq, Prod.mk.injEq] at H
    obtain ⟨rfl, rfl⟩ := H
    go_enter Try.func32, Try.ntmps32
    go_wp2_with (first | ((with_reducible refine gate_dst (N := 2) rfl ?_); refine box_event ?hg (N := 2) ?hd (cs := #[.slice A0_0 l0_0.length c0_0]) (t := 28) ?hr ?_; (case hd => rfl); (case hg => rfl); (case hr => first | (go_simp; done) | (go_simp; rfl)); intro gb612 hg w11 hbox hb; have n0_ := Aside0.mk (below_step (by repeat (first | (with_reducible first | exact HB.out | apply below_alloc | apply pw_below_drewN | apply below_drew1) | exact HB.out)) hb); have n1_ := Aside0.mk (hbox); have n2_ := Aside0.mk ((by rw [hg]; exact (below_size (by repeat (first | (with_reducible first | exact HB.out | apply below_alloc | apply pw_below_drewN | apply below_drew1) | exact HB.out))) : w.heap.size ≤ gb612)); have n3_ := Aside0.mk ((by rw [hg]; exact (below_size (by repeat (first | (with_reducible first | exact HB.out | apply below_alloc | apply pw_below_drewN | apply below_drew1) | exact HB.out))) : w.heap.size ≤ gb612)); clear HB; have HB := n0_; have BK612 := n1_; have GW612 := n2_; have GE612 := n3_; clear n0_ n1_ n2_ n3_; clear hb hbox hg; have hcz12_0 : w11.cell? ⟨gb612, 0, none⟩ = some (.slice A0_0 l0_0.length c0_0) := (blk_cell BK612.out 0).trans rfl; have hfz12_0 := blk_frozen BK612.out 0) | ((with_reducible refine gate_callee (f := 48) rfl ?_); refine goesL_ (some 8) rfl rfl Try.func48 (by kernel_rfl) rfl #[.agg #[.slice A0_0 l0_0.length c0_0], .int .i64 a1] rfl (by (try simp only [List.map_toArray, List.map_cons, List.map_nil]); first | done | rfl | (simp only [List.length_drop, List.length_take]; rfl)) ?_; (with_reducible refine (spec_rvIn.calls k _ _ l0_0 a1 false _ ?side1 ?side2 A3.out).mono ?_); (case side1 => repeat (first | exact (Kd.C_below HR0_0.out HB.out) | (with_reducible refine Kd.C_alloc ?_ _) | (with_reducible refine Kd.C_drewN ?_ _) | (with_reducible refine Kd.C_drew ?_))); (case side2 => exact HC0_0.out); rintro e w13 ⟨rfl, hb⟩; refine ⟨_, rfl, ?_⟩; have n0_ := Aside0.mk (blk_below (g := gb612) (o := .cells #[.slice A0_0 l0_0.length c0_0] 28 (0, 0)) (by (with_reducible repeat (first | refine blk_drewN ?_ _ | refine blk_drew ?_ | refine blk_alloc ?_ _)); exact BK612.out) hb); have n1_ := Aside0.mk (below_step (by repeat (first | (with_reducible first | exact HB.out | apply below_alloc | apply pw_below_drewN | apply below_drew1 | refine below_set ?_ GE612.out) | exact HB.out)) hb); clear BK612; clear HB; have BK612 := n0_; have HB := n1_; clear n0_ n1_; (try clear hb); (try clear hb2); (try clear hk); (try clear hi)))
    go_ret2
    exact ⟨by first | rfl | (simp [errW_none, errW_some] <;> rfl) | (simp [*, errW_none, errW_some] <;> rfl), by repeat (first | (with_reducible first | exact HB.out | apply below_alloc | apply pw_below_drewN | apply below_drew1 | refine below_set ?_ GE612.out) | exact HB.out)⟩
end Go.Proofs.Ytpdgiinedbdamaa.L
end
section
namespace Go.Proofs.Ytpdgiinedbdamaa.L
open Go.RowKit Go.Proofs.YtpdgiinedbdamaaW.PrintWords Go.Proofs.YtpdgiinedbdamaaW.PrintLast Go.Proofs.YtpdgiinedbdamaaW.PrintMore
attribute [local go_sem] max2_int min2_int max_two min_two max_three min_three max_four min_four
set_option linter.unusedVariables false
set_option linter.unusedSimpArgs false
def impl_GyrateBack.f (k : Nat) (l0_0 : List Int) (a1 : Int) : Option (Int × Bool) := (impl_isRankedIdeal.f k l0_0 a1).bind fun t616 => (if t616 = true then ((impl_Poset_gyration.f k l0_0).bind fun t617 => ((impl_backwards.f k t617).bind fun t620 => ((impl_Poset_toggleRanks.f k l0_0 a1 t620).bind fun t623 => (some (t623, true))))) else (some (0, false)))
theorem impl_GyrateBack.mono : ∀ a0 a1 k, LeO (impl_GyrateBack.f k a0 a1) (impl_GyrateBack.f (k + 1) a0 a1) := by
  intro a0 a1 k
  unfold impl_GyrateBack.f
  repeat' first
      | (with_reducible exact impl_Poset_gyration.mono _ _)
      | (with_reducible exact impl_Poset_toggleRanks.mono _ _ _ _)
      | (with_reducible exact impl_backwards.mono _ _)
      | (with_reducible exact impl_isRankedIdeal.mono _ _ _)
      | (with_reducible exact LeO.refl _)
      | (with_reducible exact LeO.none _)
      | (with_reducible refine LeO.ite ?_ ?_)
      | (with_reducible refine LeO.bind ?_ (fun _ => ?_))
      | exact impl_Poset_gyration.mono _ _
      | exact impl_Poset_toggleRanks.mono _ _ _ _
      | exact impl_backwards.mono _ _
      | exact impl_isRankedIdeal.mono _ _ _
      | exact LeO.none _
      | refine LeO.ite ?_ ?_
      | refine LeO.bind ?_ (fun _ => ?_)
def impl_GyrateBack.T3 : Bool × List (List Nat × List Nat) := (true, [([], []), ([], []), ([], []), ([2], [2]), ([3, 3], [3]), ([0, 1, 4, 4], [0, 1, 4]), ([5, 5, 0, 1, 2, 3, 4, 5], [5]), ([6, 0, 1, 2, 3, 4, 5, 6], [])])
def impl_GyrateBack.B3 : List Nat := [0, 0, 0, 4, 12, 31, 63, 127]
theorem impl_GyrateBack.tab3 : rtab .any (opsOf Try.f33 3) = impl_GyrateBack.T3 := by kernel_rfl
theorem impl_GyrateBack.bits3 : waitsOk impl_GyrateBack.T3.2 impl_GyrateBack.B3 = true := by kernel_rfl
set_option maxHeartbeats 8000000 in
set_option maxRecDepth 100000 in
theorem impl_GyrateBack.calls (k : Nat) (A0_0 : Option Addr) (c0_0 : Nat) (l0_0 : List Int) (a1 : Int) (r1 : Int) (r2 : Bool) (w : World) (hr0_0 : Kd.C (Kd.int .i64) w A0_0 l0_0.length l0_0) (hc0_0 : l0_0.length ≤ c0_0) (h : impl_GyrateBack.f k l0_0 a1 = some (r1, r2)) :
    Calls Try.prog 33 #[.agg #[.slice A0_0 l0_0.length c0_0], .int .i64 a1] w fun e w' => e = .returned (.tuple #[.int .i64 r1, .bool r2]) ∧ Below w.heap.size w w' := by
  have hu28 := Try.underlying28
  have HR0_0 := Aside0.mk hr0_0
  have HC0_0 := Aside0.mk hc0_0
  clear hr0_0 hc0_0
  have HB := Aside0.mk (Below.refl w.heap.size w)
  have H : ((impl_isRankedIdeal.f k l0_0 a1).bind fun t616 => (if t616 = true then ((impl_Poset_gyration.f k l0_0).bind fun t617 => ((impl_backwards.f k t617).bind fun t620 => ((impl_Poset_toggleRanks.f k l0_0 a1 t620).bind fun t623 => (some (t623, true))))) else (some (0, false)))) = some (r1, r2) := h
  clear h
  replace H := Option.bind_eq_some_iff.mp H
  obtain ⟨t616, A30, H⟩ := H
  replace H : (if t616 = true then ((impl_Poset_gyration.f k l0_0).bind fun t617 => ((impl_backwards.f k t617).bind fun t620 => ((impl_Poset_toggleRanks.f k l0_0 a1 t620).bind fun t623 => (some (t623, true))))) else (some (0, false))) = some (r1, r2) := H
  have A3 := Aside0.mk A30
  clear A30
  by_cases c4 : t616 = true
  · subst c4
    have H1 : ((impl_Poset_gyration.f k l0_0).bind fun t617 => ((impl_backwards.f k t617).bind fun t620 => ((impl_Poset_toggleRanks.f k l0_0 a1 t620).bind fun t623 => (some (t623, true))))) = some (r1, r2) := by rw [if_pos rfl] at H; exact H
    clear H
    have H := H1
    clear H1
    replace H := Option.bind_eq_some_iff.mp H
    obtain ⟨t617, A50, H⟩ := H
    replace H : ((impl_backwards.f k t617).bind fun t620 => ((impl_Poset_toggleRanks.f k l0_0 a1 t620).bind fun t623 => (some (t623, true)))) = some (r1, r2) := H
    have A5 := Aside0.mk A50
    clear A50
    replace H := Option.bind_eq_some_iff.mp H
    obtain ⟨t620, A60, H⟩ := H
    replace H : ((impl_Poset_toggleRanks.f k l0_0 a1 t620).bind fun t623 => (some (t623, true))) = some (r1, r2) := H
    have A6 := Aside0.mk A60
    clear A60
    replace H := Option.bind_eq_some_iff.mp H
    obtain ⟨t623, A70, H⟩ := H
    replace H : (some (t623, true)) = some (r1, r2) := H
    have A7 := Aside0.mk A70
    clear A70
    simp only [Option.some.injEq, Prod.mk.injEq] at H
    obtain ⟨rfl, rfl⟩ := H
    go_enter Try.func33, Try.ntmps33
    try go_wp2_with (first | ((with_reducible refine gate_dst (N := 2) rfl ?_); refine box_event ?hg (N := 2) ?hd (cs := #[.slice A0_0 l0_0.length c0_0]) (t := 28) ?hr ?_; (case hd => rfl); (case hg => rfl); (case hr => first | (go_simp; done) | (go_simp; rfl)); intro gb615 hg w8 hbox hb; have n0_ := Aside0.mk (below_step (by repeat (first | (with_reducible first | exact HB.out | apply below_alloc | apply pw_below_drewN | apply below_drew1) | exact HB.out)) hb); have n1_ := Aside0.mk (hbox); have n2_ := Aside0.mk ((by rw [hg]; exact (below_size (by repeat (first | (with_reducible first | exact HB.out | apply below_alloc | apply pw_below_drewN | apply below_drew1) | exact HB.out))) : w.heap.size ≤ gb615)); have n3_ := Aside0.mk ((by rw [hg]; exact (below_size (by repeat (first | (with_reducible first | exact HB.out | apply below_alloc | apply pw_below_drewN | apply below_drew1) | exact HB.out))) : w.heap.size ≤ gb615)); clear HB; have HB := n0_; have BK615 := n1_; have GW615 := n2_; have GE615 := n3_; clear n0_ n1_ n2_ n3_; clear hb hbox hg; have hcz9_0 : w8.cell? ⟨gb615, 0, none⟩ = some (.slice A0_0 l0_0.length c0_0) := (blk_cell BK615.out 0).trans rfl; have hfz9_0 := blk_frozen BK615.out 0) | ((with_reducible refine gate_callee (f := 50) rfl ?_); refine goesL_ (some 8) rfl rfl Try.func50 (by kernel_rfl) rfl #[.agg #[.slice A0_0 l0_0.length c0_0], .int .i64 a1] rfl (by (try simp only [List.map_toArray, List.map_cons, List.map_nil]); first | done | rfl | (simp only [List.length_drop, List.length_take]; rfl)) ?_; (with_reducible refine (impl_isRankedIdeal.calls k _ _ l0_0 a1 true _ ?side1 ?side2 A3.out).mono ?_); (case side1 => repeat (first | exact (Kd.C_below HR0_0.out HB.out) | (with_reducible refine Kd.C_alloc ?_ _) | (with_reducible refine Kd.C_drewN ?_ _) | (with_reducible refine Kd.C_drew ?_))); (case side2 => exact HC0_0.out); rintro e w10 ⟨rfl, hb⟩; refine ⟨_, rfl, ?_⟩; have n0_ := Aside0.mk (blk_below (g := gb615) (o := .cells #[.slice A0_0 l0_0.length c0_0] 28 (0, 0)) (by (with_reducible repeat (first | refine blk_drewN ?_ _ | refine blk_drew ?_ | refine blk_alloc ?_ _)); exact BK615.out) hb); have n1_ := Aside0.mk (below_step (by repeat (first | (with_reducible first | exact HB.out | apply below_alloc | apply pw_below_drewN | apply below_drew1 | refine below_set ?_ GE615.out) | exact HB.out)) hb); clear BK615; clear HB; have BK615 := n0_; have HB := n1_; clear n0_ n1_; (try clear hb); (try clear hb2); (try clear hk); (try clear hi)))
    have n0_ := Aside0.mk (blk_drew BK615.out)
    have n1_ := Aside0.mk (below_drew1 HB.out)
    clear BK615
    clear HB
    have BK615 := n0_
    have HB := n1_
    clear n0_ n1_
    refine start_ (n := 8) (S := fun w' => w'.cell? ⟨gb615, 0, none⟩ = some (.slice A0_0 l0_0.length c0_0)) (ds := []) #[false, false, false, false, false, false, false, false] (by kernel_rfl) rfl rfl ((blk_cell BK615.out 0).trans rfl) (fun hHeld => ?_); refine with_tabW impl_GyrateBack.tab3 impl_GyrateBack.bits3 (fun HT_ HW_ => ?_)
    generalize w10.drew = w11 at BK615 HB hHeld ⊢
    refine pure_ (i := 1) (N := some 11) (v := ?_) (a' := ?_) #[false, true, false, false, false, false, false, false] rfl rfl (any_of HT_.out (by kernel_rfl)) (fun _ _ _ h => h) (Or.inl ⟨by rfl, ?_⟩) ?_ ?_
    rotate_left
    · intro w'
      go_simp
      with_reducible rfl
    rotate_left
    · simp only [Act.put, List.setIfInBounds_toArray, List.set_cons_zero, List.set_cons_succ, i64_w, i32_w]
      rfl
    refine take_ (i := 0) (N := some 10) (v := ?_) (a' := ?_) #[true, true, false, false, false, false, false, false] rfl rfl (take_ofW HT_.out HW_.out (by kernel_rfl)) (fun _ _ _ h => h) (Or.inl ⟨by rfl, ?_⟩) hHeld ?_ ?_
    rotate_left
    · intro w' s0
      go_simp
      with_reducible rfl
    rotate_left
    · simp only [Act.put, List.setIfInBounds_toArray, List.set_cons_zero, List.set_cons_succ, i64_w, i32_w]
      rfl
    refine take_ (i := 2) (N := some 12) (v := ?_) (a' := ?_) #[true, true, true, false, false, false, false, false] rfl rfl (take_ofW HT_.out HW_.out (by kernel_rfl)) (fun _ _ _ h => h) (Or.inl ⟨by rfl, ?_⟩) hHeld ?_ ?_
    rotate_left
    · intro w' s0
      go_simp
      with_reducible rfl
    rotate_left
    · simp only [Act.put, List.setIfInBounds_toArray, List.set_cons_zero, List.set_cons_succ, i64_w, i32_w]
      rfl
    refine one_ (i := 3) (N := some 13) #[true, true, true, true, false, false, false, false] rfl rfl (one_of HT_.out (by kernel_rfl)) (by decide) (fun K hK => ?_)
    refine goes_ Try.func52 (by kernel_rfl) rfl #[.agg #[.slice A0_0 l0_0.length c0_0]] (by rfl) rfl rfl (by (try simp only [List.map_toArray, List.map_cons, List.map_nil]); first | done | rfl | (simp only [List.length_drop, List.length_take]; rfl)) ?_
    with_reducible refine (impl_Poset_gyration.calls k _ _ l0_0 t617 _ ?side1 ?side2 A5.out).mono ?_
    (case side1 => repeat (first | exact (Kd.C_below HR0_0.out HB.out) | (with_reducible refine Kd.C_alloc ?_ _) | (with_reducible refine Kd.C_drewN ?_ _) | (with_reducible refine Kd.C_drew ?_)))
    (case side2 => exact HC0_0.out)
    rintro e w12 ⟨v618, rfl, ho0, hb⟩
    refine ⟨_, rfl, ?_⟩
    have n0_ := Aside0.mk (Kd.R_lower ho0 (below_size (by repeat (first | (with_reducible first | exact HB.out | apply below_alloc | apply pw_below_drewN | apply below_drew1 | refine below_set ?_ GE615.out) | exact HB.out))))
    have n1_ := Aside0.mk (blk_below (g := gb615) (o := .cells #[.slice A0_0 l0_0.length c0_0] 28 (0, 0)) (by (with_reducible repeat (first | refine blk_drewN ?_ _ | refine blk_drew ?_ | refine blk_alloc ?_ _)); exact BK615.out) hb)
    have n2_ := Aside0.mk (below_step (by repeat (first | (with_reducible first | exact HB.out | apply below_alloc | apply pw_below_drewN | apply below_drew1 | refine below_set ?_ GE615.out) | exact HB.out)) hb)
    clear BK615
    clear HB
    have HO619 := n0_
    have BK615 := n1_
    have HB := n2_
    clear n0_ n1_ n2_
    (try clear hb)
    (try clear hb2)
    (try clear hk)
    (try clear hi)
    (try clear ho0)
    obtain ⟨Ao13, co13, eo13⟩ := Kd.R_slice HO619.out
    (first | subst eo13 | (injection eo13 with f1_ f2_ f3_; have f4_ := f1_.symm; have f5_ := f3_.symm; clear f1_ f2_ f3_; subst f4_; subst f5_))
    refine hK.out _ _ ((blk_cell BK615.out 0).trans rfl) (fun hHeld => ?_)
    clear hK K
    refine norm_ (a' := ?_) ?_ ?_
    rotate_left
    · show Act.put _ (some 13) _ = _
      simp only [Act.put, List.setIfInBounds_toArray, List.set_cons_zero, List.set_cons_succ, i64_w, i32_w]
      rfl
    refine one_ (i := 4) (N := some 14) #[true, true, true, true, true, false, false, false] rfl rfl (one_of HT_.out (by kernel_rfl)) (by decide) (fun K hK => ?_)
    refine goes_ Try.func58 (by kernel_rfl) rfl #[.slice Ao13 t617.length co13] (by rfl) rfl rfl (by (try simp only [List.map_toArray, List.map_cons, List.map_nil]); first | done | rfl | (simp only [List.length_drop, List.length_take]; rfl)) ?_
    with_reducible refine (impl_backwards.calls k _ _ t617 t620 _ ?side1 ?side2 A6.out).mono ?_
    (case side1 => repeat (first | exact (Kd.R_reads' HO619.out).2.2 | (with_reducible refine Kd.C_alloc ?_ _) | (with_reducible refine Kd.C_drewN ?_ _) | (with_reducible refine Kd.C_drew ?_)))
    (case side2 => exact (Kd.R_reads' HO619.out).2.1)
    rintro e w14 ⟨v621, rfl, ho0, hb⟩
    refine ⟨_, rfl, ?_⟩
    have n0_ := Aside0.mk (Kd.R_elder' (by (with_reducible repeat (first | apply Kd.R_alloc | apply Kd.R_drewN | apply Kd.R_drew)); exact HO619.out) (Kd.R_base ho0) hb)
    have n1_ := Aside0.mk (Kd.R_lower (Kd.R_new' ho0 (Kd.R_lt (by (with_reducible repeat (first | apply Kd.R_alloc | apply Kd.R_drewN | apply Kd.R_drew)); exact HO619.out))) (below_size (by repeat (first | (with_reducible first | exact HB.out | apply below_alloc | apply pw_below_drewN | apply below_drew1 | refine below_set ?_ GE615.out) | exact HB.out))))
    have n2_ := Aside0.mk (blk_below (g := gb615) (o := .cells #[.slice A0_0 l0_0.length c0_0] 28 (0, 0)) (by (with_reducible repeat (first | refine blk_drewN ?_ _ | refine blk_drew ?_ | refine blk_alloc ?_ _)); exact BK615.out) hb)
    have n3_ := Aside0.mk (below_step (by repeat (first | (with_reducible first | exact HB.out | apply below_alloc | apply pw_below_drewN | apply below_drew1 | refine below_set ?_ GE615.out) | exact HB.out)) hb)
    clear HO619
    clear BK615
    clear HB
    have HO619 := n0_
    have HO622 := n1_
    have BK615 := n2_
    have HB := n3_
    clear n0_ n1_ n2_ n3_
    (try clear hb)
    (try clear hb2)
    (try clear hk)
    (try clear hi)
    (try clear ho0)
    obtain ⟨Ao15, co15, eo15⟩ := Kd.R_slice HO622.out
    (first | subst eo15 | (injection eo15 with f1_ f2_ f3_; have f4_ := f1_.symm; have f5_ := f3_.symm; clear f1_ f2_ f3_; subst f4_; subst f5_))
    refine hK.out _ _ ((blk_cell BK615.out 0).trans rfl) (fun hHeld => ?_)
    clear hK K
    refine norm_ (a' := ?_) ?_ ?_
    rotate_left
    · show Act.put _ (some 14) _ = _
      simp only [Act.put, List.setIfInBounds_toArray, List.set_cons_zero, List.set_cons_succ, i64_w, i32_w]
      rfl
    refine one_ (i := 5) (N := some 15) #[true, true, true, true, true, true, false, false] rfl rfl (one_of HT_.out (by kernel_rfl)) (by decide) (fun K hK => ?_)
    refine goes_ Try.func51 (by kernel_rfl) rfl #[.agg #[.slice A0_0 l0_0.length c0_0], .int .i64 a1, .slice Ao15 t620.length co15] (by rfl) rfl rfl (by (try simp only [List.map_toArray, List.map_cons, List.map_nil]); first | done | rfl | (simp only [List.length_drop, List.length_take]; rfl)) ?_
    with_reducible refine (impl_Poset_toggleRanks.calls k _ _ l0_0 a1 _ _ t620 t623 _ ?side1 ?side2 ?side3 ?side4 A7.out).mono ?_
    (case side1 => repeat (first | exact (Kd.C_below HR0_0.out HB.out) | (with_reducible refine Kd.C_alloc ?_ _) | (with_reducible refine Kd.C_drewN ?_ _) | (with_reducible refine Kd.C_drew ?_)))
    (case side2 => exact HC0_0.out)
    (case side3 => repeat (first | exact (Kd.R_reads' HO622.out).2.2 | (with_reducible refine Kd.C_alloc ?_ _) | (with_reducible refine Kd.C_drewN ?_ _) | (with_reducible refine Kd.C_drew ?_)))
    (case side4 => exact (Kd.R_reads' HO622.out).2.1)
    rintro e w16 ⟨rfl, hb⟩
    refine ⟨_, rfl, ?_⟩
    have n0_ := Aside0.mk (Kd.R_below (by (with_reducible repeat (first | apply Kd.R_alloc | apply Kd.R_drewN | apply Kd.R_drew)); exact HO619.out) hb)
    have n1_ := Aside0.mk (Kd.R_below (by (with_reducible repeat (first | apply Kd.R_alloc | apply Kd.R_drewN | apply Kd.R_drew)); exact HO622.out) hb)
    have n2_ := Aside0.mk (blk_below (g := gb615) (o := .cells #[.slice A0_0 l0_0.length c0_0] 28 (0, 0)) (by (with_reducible repeat (first | refine blk_drewN ?_ _ | refine blk_drew ?_ | refine blk_alloc ?_ _)); exact BK615.out) hb)
    have n3_ := Aside0.mk (below_step (by repeat (first | (with_reducible first | exact HB.out | apply below_alloc | apply pw_below_drewN | apply below_drew1 | refine below_set ?_ GE615.out) | exact HB.out)) hb)
    clear HO619
    clear HO622
    clear BK615
    clear HB
    have HO619 := n0_
    have HO622 := n1_
    have BK615 := n2_
    have HB := n3_
    clear n0_ n1_ n2_ n3_
    (try clear hb)
    (try clear hb2)
    (try clear hk)
    (try clear hi)
    refine hK.out _ _ ((blk_cell BK615.out 0).trans rfl) (fun hHeld => ?_)
    clear hK K
    refine norm_ (a' := ?_) ?_ ?_
    rotate_left
    · show Act.put _ (some 15) _ = _
      simp only [Act.put, List.setIfInBounds_toArray, List.set_cons_zero, List.set_cons_succ, i64_w, i32_w]
      rfl
    refine pure_ (i := 6) (N := some 4) (v := ?_) (a' := ?_) #[true, true, true, true, true, true, true, false] rfl rfl (any_of HT_.out (by kernel_rfl)) (fun _ _ _ h => h) (Or.inl ⟨by rfl, ?_⟩) ?_ ?_
    rotate_left
    · intro w'
      go_simp
      with_reducible rfl
    rotate_left
    · simp only [Act.put, List.setIfInBounds_toArray, List.set_cons_zero, List.set_cons_succ, i64_w, i32_w]
      rfl
    refine pure_ (i := 7) (N := some 5) (v := ?_) (a' := ?_) #[true, true, true, true, true, true, true, true] rfl rfl (any_of HT_.out (by kernel_rfl)) (fun _ _ _ h => h) (Or.inl ⟨by rfl, ?_⟩) ?_ ?_
    rotate_left
    · intro w'
      go_simp
      with_reducible rfl
    rotate_left
    · simp only [Act.put, List.setIfInBounds_toArray, List.set_cons_zero, List.set_cons_succ, i64_w, i32_w]
      rfl
    refine done_ (done_of HT_.out (by kernel_rfl)) ?_
    try go_wp2
    go_ret2
    exact ⟨by first | rfl | (simp [errW_none, errW_some] <;> rfl) | (simp [*, errW_none, errW_some] <;> rfl), by repeat (first | (with_reducible first | exact HB.out | apply below_alloc | apply pw_below_drewN | apply below_drew1 | refine below_set ?_ GE615.out) | exact HB.out)⟩
  · replace c4 := Bool.eq_false_iff.mpr c4
    subst c4
    have H1 : (some (0, false)) = some (r1, r2) := by rw [if_neg (show ¬ (false = true) by decide)] at H; exact H
    clear H
    have H := H1
    clear H1
    simp only [Option.some.injEq, Prod.mk.injEq] at H
    obtain ⟨rfl, rfl⟩ := H
    go_enter Try.func33, Try.ntmps33
    go_wp2_with (first | ((with_reducible refine gate_dst (N := 2) rfl ?_); refine box_event ?hg (N := 2) ?hd (cs := #[.slice A0_0 l0_0.length c0_0]) (t := 28) ?hr ?_; (case hd => rfl); (case hg => rfl); (case hr => first | (go_simp; done) | (go_simp; rfl)); intro gb615 hg w17 hbox hb; have n0_ := Aside0.mk (below_step (by repeat (first | (with_reducible first | exact HB.out | apply below_alloc | apply pw_below_drewN | apply below_drew1) | exact HB.out)) hb); have n1_ := Aside0.mk (hbox); have n2_ := Aside0.mk ((by rw [hg]; exact (below_size (by repeat (first | (with_reducible first | exact HB.out | apply below_alloc | apply pw_below_drewN | apply below_drew1) | exact HB.out))) : w.heap.size ≤ gb615)); have n3_ := Aside0.mk ((by rw [hg]; exact (below_size (by repeat (first | (with_reducible first | exact HB.out | apply below_alloc | apply pw_below_drewN | apply below_drew1) | exact HB.out))) : w.heap.size ≤ gb615)); clear HB; have HB := n0_; have BK615 := n1_; have GW615 := n2_; have GE615 := n3_; clear n0_ n1_ n2_ n3_; clear hb hbox hg; have hcz18_0 : w17.cell? ⟨gb615, 0, none⟩ = some (.slice A0_0 l0_0.length c0_0) := (blk_cell BK615.out 0).trans rfl; have hfz18_0 := blk_frozen BK615.out 0) | ((with_reducible refine gate_callee (f := 50) rfl ?_); refine goesL_ (some 8) rfl rfl Try.func50 (by kernel_rfl) rfl #[.agg #[.slice A0_0 l0_0.length c0_0], .int .i64 a1] rfl (by (try simp only [List.map_toArray, List.map_cons, List.map_nil]); first | done | rfl | (simp only [List.length_drop, List.length_take]; rfl)) ?_; (with_reducible refine (impl_isRankedIdeal.calls k _ _ l0_0 a1 false _ ?side1 ?side2 A3.out).mono ?_); (case side1 => repeat (first | exact (Kd.C_below HR0_0.out HB.out) | (with_reducible refine Kd.C_alloc ?_ _) | (with_reducible refine Kd.C_drewN ?_ _) | (with_reducible refine Kd.C_drew ?_))); (case side2 => exact HC0_0.out); rintro e w19 ⟨rfl, hb⟩; refine ⟨_, rfl, ?_⟩; have n0_ := Aside0.mk (blk_below (g := gb615) (o := .cells #[.slice A0_0 l0_0.length c0_0] 28 (0, 0)) (by (with_reducible repeat (first | refine blk_drewN ?_ _ | refine blk_drew ?_ | refine blk_alloc ?_ _)); exact BK615.out) hb); have n1_ := Aside0.mk (below_step (by repeat (first | (with_reducible first | exact HB.out | apply below_alloc | apply pw_below_drewN | apply below_drew1 | refine below_set ?_ GE615.out) | exact HB.out)) hb); clear BK615; clear HB; have BK615 := n0_; have HB := n1_; clear n0_ n1_; (try clear hb); (try clear hb2); (try clear hk); (try clear hi)))
    go_ret2
    exact ⟨by first | rfl | (simp [errW_none, errW_some] <;> rfl) | (simp [*, errW_none, errW_some] <;> rfl), by repeat (first | (with_reducible first | exact HB.out | apply below_alloc | apply pw_below_drewN | apply below_drew1 | refine below_set ?_ GE615.out) | exact HB.out)⟩
end Go.Proofs.Ytpdgiinedbdamaa.L
end
section
namespace Go.Proofs.Ytpdgiinedbdamaa.L
open Go.RowKit Go.Proofs.YtpdgiinedbdamaaW.PrintWords Go.Proofs.YtpdgiinedbdamaaW.PrintLast Go.Proofs.YtpdgiinedbdamaaW.PrintMore
attribute [local go_sem] max2_int min2_int max_two min_two max_three min_three max_four min_four
set_option linter.unusedVariables false
set_option linter.unusedSimpArgs false
def spec_rvWord.l0 : Nat → Int → List Int → List Int → Int → Int → List Int → Option (Int)
  | 0, _, _, _, _, _, _ => none
  | k + 1, x1, x7, x12, x13, x14, x523000 => if x14 < x13 then (if 0 ≤ x14 then (if x14 < (x12.length : Int) then (if 0 ≤ (rd x12 x14) then (if (rd x12 x14) < (x7.length : Int) then ((spec_rvAt.f k x523000 x1 (rd x7 (rd x12 x14))).bind fun t528 => (spec_rvWord.l0 k t528 x7 x12 x13 (wrap64 (x14 + 1)) x523000)) else (none)) else (none)) else (none)) else (none)) else (some x1)
def spec_rvWord.f (k : Nat) (l0_0 : List Int) (a1 : Int) (l2 : List Int) : Option (Int) := (spec_rvRanks.f k l0_0).bind fun t523 => (spec_rvWord.l0 k a1 t523 l2 (l2.length : Int) 0 l0_0)
theorem spec_rvWord.mono_l : ∀ k, (∀ y0 y1 y2 y3 y4 y5, LeO (spec_rvWord.l0 k y0 y1 y2 y3 y4 y5) (spec_rvWord.l0 (k + 1) y0 y1 y2 y3 y4 y5))
  | 0 => fun _ _ _ _ _ _ r h => by simp [spec_rvWord.l0] at h
  | k + 1 => by
    have ih0 := spec_rvWord.mono_l k
    · intro y0 y1 y2 y3 y4 y5
      unfold spec_rvWord.l0
      repeat' first
      | (with_reducible exact ih0 _ _ _ _ _ _)
      | (with_reducible exact spec_rvAt.mono _ _ _ _)
      | (with_reducible exact spec_rvRanks.mono _ _)
      | (with_reducible exact LeO.refl _)
      | (with_reducible exact LeO.none _)
      | (with_reducible refine LeO.ite ?_ ?_)
      | (with_reducible refine LeO.bind ?_ (fun _ => ?_))
      | exact ih0 _ _ _ _ _ _
      | exact spec_rvAt.mono _ _ _ _
      | exact spec_rvRanks.mono _ _
      | exact LeO.none _
      | refine LeO.ite ?_ ?_
      | refine LeO.bind ?_ (fun _ => ?_)
theorem spec_rvWord.mono : ∀ a0 a1 a2 k, LeO (spec_rvWord.f k a0 a1 a2) (spec_rvWord.f (k + 1) a0 a1 a2) := by
  intro a0 a1 a2 k
  have ih0 := spec_rvWord.mono_l k
  unfold spec_rvWord.f
  repeat' first
      | (with_reducible exact ih0 _ _ _ _ _ _)
      | (with_reducible exact spec_rvAt.mono _ _ _ _)
      | (with_reducible exact spec_rvRanks.mono _ _)
      | (with_reducible exact LeO.refl _)
      | (with_reducible exact LeO.none _)
      | (with_reducible refine LeO.ite ?_ ?_)
      | (with_reducible refine LeO.bind ?_ (fun _ => ?_))
      | exact ih0 _ _ _ _ _ _
      | exact spec_rvAt.mono _ _ _ _
      | exact spec_rvRanks.mono _ _
      | exact LeO.none _
      | refine LeO.ite ?_ ?_
      | refine LeO.bind ?_ (fun _ => ?_)
def spec_rvWord.T5 : Bool × List (List Nat × List Nat) := (true, [([], []), ([], []), ([], []), ([], []), ([2, 3], [2, 3]), ([4], [4]), ([0, 1, 5], [0, 1, 5]), ([6, 6, 0, 1, 2, 3, 4, 5, 6], [1, 6])])
def spec_rvWord.B5 : List Nat := [0, 0, 0, 0, 12, 28, 63, 127]
theorem spec_rvWord.tab5 : rtab .any (opsOf Try.f64 5) = spec_rvWord.T5 := by kernel_rfl
theorem spec_rvWord.bits5 : waitsOk spec_rvWord.T5.2 spec_rvWord.B5 = true := by kernel_rfl
set_option maxHeartbeats 8000000 in
set_option maxRecDepth 100000 in
theorem spec_rvWord.calls (k : Nat) (A0_0 : Option Addr) (c0_0 : Nat) (l0_0 : List Int) (a1 : Int) (A2 : Option Addr) (c2 : Nat) (l2 : List Int) (r : Int) (w : World) (hr0_0 : Kd.C (Kd.int .i64) w A0_0 l0_0.length l0_0) (hc0_0 : l0_0.length ≤ c0_0) (hr2 : Kd.C (Kd.int .i64) w A2 l2.length l2) (hc2 : l2.length ≤ c2) (h : spec_rvWord.f k l0_0 a1 l2 = some r) :
    Calls Try.prog 64 #[.agg #[.slice A0_0 l0_0.length c0_0], .int .i64 a1, .slice A2 l2.length c2] w fun e w' => e = .returned (.int .i64 r) ∧ Below w.heap.size w w' := by
  have hu28 := Try.underlying28
  have HR0_0 := Aside0.mk hr0_0
  have HC0_0 := Aside0.mk hc0_0
  clear hr0_0 hc0_0
  have HR2 := Aside0.mk hr2
  have HC2 := Aside0.mk hc2
  clear hr2 hc2
  have HB := Aside0.mk (Below.refl w.heap.size w)
  have H : ((spec_rvRanks.f k l0_0).bind fun t523 => (spec_rvWord.l0 k a1 t523 l2 (l2.length : Int) 0 l0_0)) = some r := h
  clear h
  replace H := Option.bind_eq_some_iff.mp H
  obtain ⟨t523, A40, H⟩ := H
  replace H : (spec_rvWord.l0 k a1 t523 l2 (l2.length : Int) 0 l0_0) = some r := H
  have A4 := Aside0.mk A40
  clear A40
  have H' := Aside0.mk H
  clear H
  go_enter Try.func64, Try.ntmps64
  go_wp2_with (first | ((with_reducible refine gate_dst (N := 3) rfl ?_); refine box_event ?hg (N := 3) ?hd (cs := #[.slice A0_0 l0_0.length c0_0]) (t := 28) ?hr ?_; (case hd => rfl); (case hg => rfl); (case hr => first | (go_simp; done) | (go_simp; rfl)); intro gb522 hg w5 hbox hb; have n0_ := Aside0.mk (below_step (by repeat (first | (with_reducible first | exact HB.out | apply below_alloc | apply pw_below_drewN | apply below_drew1) | exact HB.out)) hb); have n1_ := Aside0.mk (hbox); have n2_ := Aside0.mk ((by rw [hg]; exact (below_size (by repeat (first | (with_reducible first | exact HB.out | apply below_alloc | apply pw_below_drewN | apply below_drew1) | exact HB.out))) : w.heap.size ≤ gb522)); have n3_ := Aside0.mk ((by rw [hg]; exact (below_size (by repeat (first | (with_reducible first | exact HB.out | apply below_alloc | apply pw_below_drewN | apply below_drew1) | exact HB.out))) : w.heap.size ≤ gb522)); clear HB; have HB := n0_; have BK522 := n1_; have GW522 := n2_; have GE522 := n3_; clear n0_ n1_ n2_ n3_; clear hb hbox hg; have hcz6_0 : w5.cell? ⟨gb522, 0, none⟩ = some (.slice A0_0 l0_0.length c0_0) := (blk_cell BK522.out 0).trans rfl; have hfz6_0 := blk_frozen BK522.out 0) | ((with_reducible refine gate_callee (f := 68) rfl ?_); refine goesL_ (some 11) rfl rfl Try.func68 (by kernel_rfl) rfl #[.agg #[.slice A0_0 l0_0.length c0_0]] rfl (by (try simp only [List.map_toArray, List.map_cons, List.map_nil]); first | done | rfl | (simp only [List.length_drop, List.length_take]; rfl)) ?_; (with_reducible refine (spec_rvRanks.calls k _ _ l0_0 t523 _ ?side1 ?side2 A4.out).mono ?_); (case side1 => repeat (first | exact (Kd.C_below HR0_0.out HB.out) | (with_reducible refine Kd.C_alloc ?_ _) | (with_reducible refine Kd.C_drewN ?_ _) | (with_reducible refine Kd.C_drew ?_))); (case side2 => exact HC0_0.out); rintro e w7 ⟨v524, rfl, ho0, hb⟩; refine ⟨_, rfl, ?_⟩; have n0_ := Aside0.mk (Kd.R_lower ho0 (below_size (by repeat (first | (with_reducible first | exact HB.out | apply below_alloc | apply pw_below_drewN | apply below_drew1 | refine below_set ?_ GE522.out) | exact HB.out)))); have n1_ := Aside0.mk (blk_below (g := gb522) (o := .cells #[.slice A0_0 l0_0.length c0_0] 28 (0, 0)) (by (with_reducible repeat (first | refine blk_drewN ?_ _ | refine blk_drew ?_ | refine blk_alloc ?_ _)); exact BK522.out) hb); have n2_ := Aside0.mk (below_step (by repeat (first | (with_reducible first | exact HB.out | apply below_alloc | apply pw_below_drewN | apply below_drew1 | refine below_set ?_ GE522.out) | exact HB.out)) hb); clear BK522; clear HB; have HO525 := n0_; have BK522 := n1_; have HB := n2_; clear n0_ n1_ n2_; (try clear hb); (try clear hb2); (try clear hk); (try clear hi); (try clear ho0)))
  go_loopg [1, 14] k (fun kq v1 v14 w' => ∃ (x1_1 : Int) (x14_1 : Int), v1 = .int .i64 x1_1 ∧ v14 = .int .i64 x14_1 ∧ Aside0 (spec_rvWord.l0 kq x1_1 t523 l2 (l2.length : Int) x14_1 l0_0 = some r) ∧ Aside0 (kq ≤ k) ∧ Aside0 (Kd.R (Kd.int .i64) 3 w' w.heap.size (fun _ => True) v524 t523) ∧ Aside0 (w'.heap[gb522]? = some (.cells #[(.slice A0_0 l0_0.length c0_0)] 28 (0, 0))) ∧ Aside0 (Below w.heap.size w w'))
  case atStart => exact ⟨(a1), (0), (by first | rfl | (simp; done) | (simp [*]; done)), (by first | rfl | (simp; done) | (simp [*]; done)), H', ⟨Nat.le_refl _⟩, ⟨by (with_reducible repeat (first | apply Kd.R_alloc | apply Kd.R_drewN | apply Kd.R_drew)); exact HO525.out⟩, ⟨by (with_reducible repeat (first | refine blk_drewN ?_ _ | refine blk_drew ?_ | refine blk_alloc ?_ _)); exact BK522.out⟩, ⟨by repeat (first | (with_reducible first | exact HB.out | apply below_alloc | apply pw_below_drewN | apply below_drew1 | refine below_set ?_ GE522.out) | exact HB.out)⟩⟩
  case round =>
    clear H'
    try clear c2
    try clear p2
    try clear c6
    try clear hcz6_0
    try clear hfz6_0
    obtain ⟨x1_1, x14_1, rfl, rfl, HA, HK1, HO_7, BK522, HB⟩ := hrel
    cases gk with
    | zero => exact absurd HA.out (by simp [spec_rvWord.l0])
    | succ k1 =>
      have H := HA.out
      clear HA
      simp only [spec_rvWord.l0] at H
      by_cases c8 : x14_1 < (l2.length : Int)
      · rw [if_pos c8] at H
        have c8b0 : decide (x14_1 < (l2.length : Int)) = true := decide_eq_true c8
        clear c8
        by_cases c9 : 0 ≤ x14_1
        · rw [if_pos c9] at H
          have c9b0 : decide (0 ≤ x14_1) = true := decide_eq_true c9
          clear c9
          by_cases c10 : x14_1 < (l2.length : Int)
          · rw [if_pos c10] at H
            have c10b0 : decide (x14_1 < (l2.length : Int)) = true := decide_eq_true c10
            clear c10
            by_cases c11 : 0 ≤ (rd l2 x14_1)
            · rw [if_pos c11] at H
              have c11b0 : decide (0 ≤ (rd l2 x14_1)) = true := decide_eq_true c11
              clear c11
              by_cases c12 : (rd l2 x14_1) < (t523.length : Int)
              · rw [if_pos c12] at H
                have c12b0 : decide ((rd l2 x14_1) < (t523.length : Int)) = true := decide_eq_true c12
                clear c12
                replace H := Option.bind_eq_some_iff.mp H
                obtain ⟨t528, A130, H⟩ := H
                replace H : (spec_rvWord.l0 k1 t528 t523 l2 (l2.length : Int) (wrap64 (x14_1 + 1)) l0_0) = some r := H
                have A13 := Aside0.mk A130
                clear A130
                have H' := Aside0.mk H
                clear H
                have p526 : 0 ≤ (x14_1 : Int) := of_decide_eq_true (by first | (with_reducible assumption) | assumption)
                have q526 : x14_1 < (l2.length : Int) := of_decide_eq_true (by first | (with_reducible assumption) | assumption)
                obtain ⟨ad526, e526, hx526_0⟩ := Kd.at_int HR2.out x14_1 p526 q526
                cases e526
                replace hx526_0 := (HB.out.cell (World.block_lt_of_cell? w _ hx526_0)).trans hx526_0
                replace p526 := eq_true p526
                replace q526 := eq_true q526
                try go_wp2
                have n0_ := Aside0.mk (Kd.R_drew HO_7.out)
                have n1_ := Aside0.mk (blk_drew BK522.out)
                have n2_ := Aside0.mk (below_drew1 HB.out)
                clear HO_7
                clear BK522
                clear HB
                have HO_7 := n0_
                have BK522 := n1_
                have HB := n2_
                clear n0_ n1_ n2_
                obtain ⟨Ao15, co15, eo15⟩ := Kd.R_slice HO_7.out
                (first | subst eo15 | (injection eo15 with f1_ f2_ f3_; have f4_ := f1_.symm; have f5_ := f3_.symm; clear f1_ f2_ f3_; subst f4_; subst f5_))
                have p527 : 0 ≤ ((rd l2 x14_1) : Int) := of_decide_eq_true (by first | (with_reducible assumption) | assumption)
                have q527 : (rd l2 x14_1) < (t523.length : Int) := of_decide_eq_true (by first | (with_reducible assumption) | assumption)
                obtain ⟨ad527, e527, hx527_0⟩ := Kd.at_int (Kd.R_reads' HO_7.out).2.2 (rd l2 x14_1) p527 q527
                cases e527
                replace p527 := eq_true p527
                replace q527 := eq_true q527
                refine start_ (n := 8) (S := fun w' => w'.cell? ⟨gb522, 0, none⟩ = some (.slice A0_0 l0_0.length c0_0) ∧ w'.cell? (ad527.add ((rd l2 x14_1)).toNat) = some (.int .i64 (rd t523 (rd l2 x14_1)))) (ds := []) #[false, false, false, false, false, false, false, false] (by kernel_rfl) rfl rfl ⟨(blk_cell BK522.out 0).trans rfl, hx527_0⟩ (fun hHeld => ?_); refine with_tabW spec_rvWord.tab5 spec_rvWord.bits5 (fun HT_ HW_ => ?_)
                generalize wr.drew = w14 at HO_7 BK522 HB hx527_0 hHeld ⊢
                refine pure_ (i := 1) (N := some 19) (v := ?_) (a' := ?_) #[false, true, false, false, false, false, false, false] rfl rfl (any_of HT_.out (by kernel_rfl)) (fun _ _ _ h => h) (Or.inl ⟨by rfl, ?_⟩) ?_ ?_
                rotate_left
                · intro w'
                  go_simp
                  with_reducible rfl
                rotate_left
                · simp only [Act.put, List.setIfInBounds_toArray, List.set_cons_zero, List.set_cons_succ, i64_w, i32_w]
                  rfl
                refine pure_ (i := 2) (N := some 20) (v := ?_) (a' := ?_) #[false, true, true, false, false, false, false, false] rfl rfl (any_of HT_.out (by kernel_rfl)) (fun _ _ _ h => h) (Or.inl ⟨by rfl, ?_⟩) ?_ ?_
                rotate_left
                · intro w'
                  go_simp
                  with_reducible rfl
                rotate_left
                · simp only [Act.put, List.setIfInBounds_toArray, List.set_cons_zero, List.set_cons_succ, i64_w, i32_w]
                  rfl
                refine pure_ (i := 3) (N := some 21) (v := ?_) (a' := ?_) #[false, true, true, true, false, false, false, false] rfl rfl (any_of HT_.out (by kernel_rfl)) (fun _ _ _ h => h) (Or.inl ⟨by rfl, ?_⟩) ?_ ?_
                rotate_left
                · intro w'
                  go_simp
                  with_reducible rfl
                rotate_left
                · simp only [Act.put, List.setIfInBounds_toArray, List.set_cons_zero, List.set_cons_succ, i64_w, i32_w]
                  rfl
                refine pure_ (i := 4) (N := some 22) (v := ?_) (a' := ?_) #[false, true, true, true, true, false, false, false] rfl rfl (any_of HT_.out (by kernel_rfl)) (fun _ _ _ h => h) (Or.inl ⟨by rfl, ?_⟩) ?_ ?_
                rotate_left
                · intro w'
                  go_simp
                  with_reducible rfl
                rotate_left
                · simp only [Act.put, List.setIfInBounds_toArray, List.set_cons_zero, List.set_cons_succ, i64_w, i32_w]
                  rfl
                refine take_ (i := 0) (N := some 18) (v := ?_) (a' := ?_) #[true, true, true, true, true, false, false, false] rfl rfl (take_ofW HT_.out HW_.out (by kernel_rfl)) (fun _ _ _ h => h) (Or.inl ⟨by rfl, ?_⟩) hHeld ?_ ?_
                rotate_left
                · rintro w' ⟨s0, s1⟩
                  go_simp
                  with_reducible rfl
                rotate_left
                · simp only [Act.put, List.setIfInBounds_toArray, List.set_cons_zero, List.set_cons_succ, i64_w, i32_w]
                  rfl
                refine take_ (i := 5) (N := some 23) (v := ?_) (a' := ?_) #[true, true, true, true, true, true, false, false] rfl rfl (take_ofW HT_.out HW_.out (by kernel_rfl)) (fun _ _ _ h => h) (Or.inl ⟨by rfl, ?_⟩) hHeld ?_ ?_
                rotate_left
                · rintro w' ⟨s0, s1⟩
                  go_simp
                  with_reducible rfl
                rotate_left
                · simp only [Act.put, List.setIfInBounds_toArray, List.set_cons_zero, List.set_cons_succ, i64_w, i32_w]
                  rfl
                refine one_ (i := 6) (N := some 24) #[true, true, true, true, true, true, true, false] rfl rfl (one_of HT_.out (by kernel_rfl)) (by decide) (fun K hK => ?_)
                refine goes_ Try.func102 (by kernel_rfl) rfl #[.agg #[.slice A0_0 l0_0.length c0_0], .int .i64 x1_1, .int .i64 (rd t523 (rd l2 x14_1))] (by rfl) rfl rfl (by (try simp only [List.map_toArray, List.map_cons, List.map_nil]); first | done | rfl | (simp only [List.length_drop, List.length_take]; rfl)) ?_
                with_reducible refine (spec_rvAt.calls k1 _ _ l0_0 x1_1 (rd t523 (rd l2 x14_1)) t528 _ ?side1 ?side2 A13.out).mono ?_
                (case side1 => repeat (first | exact (Kd.C_below HR0_0.out HB.out) | (with_reducible refine Kd.C_alloc ?_ _) | (with_reducible refine Kd.C_drewN ?_ _) | (with_reducible refine Kd.C_drew ?_)))
                (case side2 => exact HC0_0.out)
                rintro e w16 ⟨rfl, hb⟩
                have HS1_ := (hb.cell (World.block_lt_of_cell? _ _ (hHeld.2))).trans (hHeld.2)
                refine ⟨_, rfl, ?_⟩
                have n0_ := Aside0.mk (Kd.R_below (by (with_reducible repeat (first | apply Kd.R_alloc | apply Kd.R_drewN | apply Kd.R_drew)); exact HO_7.out) hb)
                have n1_ := Aside0.mk (blk_below (g := gb522) (o := .cells #[.slice A0_0 l0_0.length c0_0] 28 (0, 0)) (by (with_reducible repeat (first | refine blk_drewN ?_ _ | refine blk_drew ?_ | refine blk_alloc ?_ _)); exact BK522.out) hb)
                have n2_ := Aside0.mk (below_step (by repeat (first | (with_reducible first | exact HB.out | apply below_alloc | apply pw_below_drewN | apply below_drew1 | refine below_set ?_ GE522.out) | exact HB.out)) hb)
                clear HO_7
                clear BK522
                clear HB
                have HO_7 := n0_
                have BK522 := n1_
                have HB := n2_
                clear n0_ n1_ n2_
                (try clear hb)
                (try clear hb2)
                (try clear hk)
                (try clear hi)
                refine hK.out _ _ ⟨(blk_cell BK522.out 0).trans rfl, HS1_⟩ (fun hHeld => ?_)
                clear hK K
                refine norm_ (a' := ?_) ?_ ?_
                rotate_left
                · show Act.put _ (some 24) _ = _
                  simp only [Act.put, List.setIfInBounds_toArray, List.set_cons_zero, List.set_cons_succ, i64_w, i32_w]
                  rfl
                refine pure_ (i := 7) (N := some 1) (v := ?_) (a' := ?_) #[true, true, true, true, true, true, true, true] rfl rfl (any_of HT_.out (by kernel_rfl)) (fun _ _ _ h => h) (Or.inl ⟨by rfl, ?_⟩) ?_ ?_
                rotate_left
                · intro w'
                  go_simp
                  with_reducible rfl
                rotate_left
                · simp only [Act.put, List.setIfInBounds_toArray, List.set_cons_zero, List.set_cons_succ, i64_w, i32_w]
                  rfl
                refine done_ (done_of HT_.out (by kernel_rfl)) ?_
                try go_wp2
                go_roundg k1
                case measure => have := HK1.out; omega
                case rel => exact ⟨(t528), (wrap64 (x14_1 + 1)), (by first | rfl | (simp; done) | (simp [*]; done)), (by first | rfl | (simp; done) | (simp [*]; done)), H', ⟨by have := HK1.out; omega⟩, ⟨by (with_reducible repeat (first | apply Kd.R_alloc | apply Kd.R_drewN | apply Kd.R_drew)); exact HO_7.out⟩, ⟨by (with_reducible repeat (first | refine blk_drewN ?_ _ | refine blk_drew ?_ | refine blk_alloc ?_ _)); exact BK522.out⟩, ⟨by repeat (first | (with_reducible first | exact HB.out | apply below_alloc | apply pw_below_drewN | apply below_drew1 | refine below_set ?_ GE522.out) | exact HB.out)⟩⟩
              · rw [if_neg c12] at H
                exact absurd H (by simp)
            · rw [if_neg c11] at H
              exact absurd H (by simp)
          · rw [if_neg c10] at H
            exact absurd H (by simp)
        · rw [if_neg c9] at H
          exact absurd H (by simp)
      · rw [if_neg c8] at H
        have c8b0 : decide (x14_1 < (l2.length : Int)) = false := decide_eq_false c8
        clear c8
        obtain rfl := Option.some.inj H
        go_wp2
        go_ret
        exact ⟨by first | rfl | (simp [errW_none, errW_some] <;> rfl) | (simp [*, errW_none, errW_some] <;> rfl), by repeat (first | (with_reducible first | exact HB.out | apply below_alloc | apply pw_below_drewN | apply below_drew1 | refine below_set ?_ GE522.out) | exact HB.out)⟩
end Go.Proofs.Ytpdgiinedbdamaa.L
end
section
namespace Go.Proofs.Ytpdgiinedbdamaa.M
open Go.RowKit Go.Proofs.YtpdgiinedbdamaaW.PrintWords Go.Proofs.YtpdgiinedbdamaaW.PrintLast Go.Proofs.YtpdgiinedbdamaaW.PrintMore Go.Proofs.Ytpdgiinedbdamaa.L
set_option linter.unusedVariables false
def stepH (p : List Nat) (a : List Nat) (i : Nat) : Nat := foldBits i (less p i) (fun m e => max m (a.getD e 0 + 1)) 0
def hs (p : List Nat) : Nat → List Nat
  | 0 => []
  | i + 1 => hs p i ++ [stepH p (hs p i) i]
theorem hs_len (p : List Nat) : ∀ i, (hs p i).length = i
  | 0 => rfl
  | i + 1 => by simp [hs, hs_len p i]
def ht (p : List Nat) : List Nat := hs p p.length
theorem ht_len (p : List Nat) : (ht p).length = p.length := hs_len p _
def hh (p : List Nat) (i : Nat) : Nat := (ht p).getD i 0
theorem hs_le (p : List Nat) : ∀ i e, (hs p i).getD e 0 ≤ e
  | 0, e => by simp [hs]
  | i + 1, e => by
    rw [hs]
    by_cases h : e < i
    · have := hs_le p i e
      simpa [List.getD_eq_getElem?_getD, List.getElem?_append_left (by rw [hs_len]; exact h : e < (hs p i).length)] using this
    · by_cases h2 : e = i
      · subst h2
        have : (hs p e ++ [stepH p (hs p e) e]).getD e 0 = stepH p (hs p e) e := by
          rw [List.getD_eq_getElem?_getD, List.getElem?_append_right (by rw [hs_len]; exact Nat.le_refl _)]
          simp [hs_len]
        rw [this]
        refine foldBits_inv _ _ _ _ (· ≤ e) (Nat.zero_le _) (fun a x ha hx _ => ?_)
        have := hs_le p e x
        omega
      · rw [List.getD_eq_getElem?_getD, List.getElem?_eq_none (by simp [hs_len]; omega)]
        exact Nat.zero_le _
theorem hh_le (p : List Nat) (i : Nat) : hh p i ≤ i := hs_le p _ i
theorem getD_app_l {a b : List Nat} {e : Nat} (h : e < a.length) : (a ++ b).getD e 0 = a.getD e 0 := by
  simp [List.getD_eq_getElem?_getD, List.getElem?_append_left h]
theorem getD_app_at {a b : List Nat} {m : Nat} : (a ++ m :: b).getD a.length 0 = m := by
  simp [List.getD_eq_getElem?_getD]
theorem set_app_at {a b : List Nat} {m x : Nat} : (a ++ m :: b).set a.length x = a ++ x :: b := by simp
theorem mx_nat (a b : Nat) : mx (a : Int) (b : Int) = ((max a b : Nat) : Int) := by unfold mx; split <;> omega
theorem implHeights_l1' {p : List Nat} (g : Good p) (i : Nat) (hi : i < p.length) (a z : List Nat) (ha : a.length = i) (hz : i + 1 + z.length = p.length) (hb : ∀ e, a.getD e 0 ≤ e) (r : List Int) : ∀ (d q m : Nat), q + d = (items (less p i)).length →
    m ≤ i → Ev (fun k => impl_Poset_heights.l0 k (toI (a ++ ((items (less p i)).drop q).foldl (fun m e => max m (a.getD e 0 + 1)) m :: z)) (toI p) ((toI p).length : Int) ((i + 1 : Nat) : Int)) r →
    Ev (fun k => impl_Poset_heights.l1 k (toI (a ++ m :: z)) (i : Int) (toI p) ((toI p).length : Int) (i : Int) (toI (items (less p i))) ((toI (items (less p i))).length : Int) (q : Int)) r
  | 0, q, m, h, hm, c => by
    have := g.le
    refine Ev.step (fun _ => impl_Poset_heights.l1.eq_2 ..) (ev_neg (by rw [toI_len]; omega) ?_)
    rw [wrap_succ (by omega)]
    rw [List.drop_of_length_le (by omega)] at c; exact c
  | d + 1, q, m, h, hm, c => by
    have gl := g.le
    have hq : q < (items (less p i)).length := by omega
    have hmm := items_get hq
    have hbit := g.bit hmm.2
    have hl := items_len (less p i)
    have hx := hb (items (less p i))[q]
    refine Ev.step (fun _ => impl_Poset_heights.l1.eq_2 ..) ?_
    rw [rd_items hq]
    refine ev_pos (by rw [toI_len]; omega) (ev_pos (by omega) (ev_pos (by rw [toI_len]; omega) (ev_pos (by omega) (ev_pos (by rw [toI_len]; simp; omega) (ev_pos (by omega) (ev_pos (by rw [toI_len]; simp; omega) ?_))))))
    have e1 : rd (toI (a ++ m :: z)) (i : Int) = (m : Int) := by rw [rd_toI, ← ha, getD_app_at]
    have e2 : rd (toI (a ++ m :: z)) (((items (less p i))[q] : Nat) : Int) = ((a.getD (items (less p i))[q] 0 : Nat) : Int) := by rw [rd_toI, getD_app_l (by omega)]
    rw [e1, e2, wrap_succ (by omega), wrap_succ (by omega), mx_nat, Int.toNat_natCast, toI_set]
    have e3 : ∀ x, (a ++ m :: z).set i x = a ++ x :: z := fun x => by rw [← ha]; exact set_app_at
    rw [e3]
    refine implHeights_l1' g i hi a z ha hz hb r d (q + 1) _ (by omega) (by omega) ?_
    rw [List.drop_eq_getElem_cons hq, List.foldl_cons] at c; exact c
theorem hs_state {p : List Nat} {i : Nat} (h : i < p.length) : hs p i ++ List.replicate (p.length - i) 0 = hs p i ++ 0 :: List.replicate (p.length - (i + 1)) 0 := by
  rw [show p.length - i = (p.length - (i + 1)) + 1 by omega, List.replicate_succ]
theorem hs_next {p : List Nat} {i : Nat} : hs p i ++ stepH p (hs p i) i :: List.replicate (p.length - (i + 1)) 0 = hs p (i + 1) ++ List.replicate (p.length - (i + 1)) 0 := by
  rw [hs, List.append_assoc]; rfl
theorem implHeights_l0 {p : List Nat} (g : Good p) : ∀ (d i : Nat), i + d = p.length → Ev (fun k => impl_Poset_heights.l0 k (toI (hs p i ++ List.replicate (p.length - i) 0)) (toI p) ((toI p).length : Int) (i : Int)) (toI (ht p))
  | 0, i, h => by
    refine Ev.step (fun _ => impl_Poset_heights.l0.eq_2 ..) (ev_neg (by rw [toI_len]; omega) ?_)
    obtain rfl : i = p.length := by omega
    rw [Nat.sub_self, List.replicate_zero, List.append_nil]; exact Ev.now _
  | d + 1, i, h => by
    have gl := g.le
    refine Ev.step (fun _ => impl_Poset_heights.l0.eq_2 ..) (ev_pos (by rw [toI_len]; omega) (ev_pos (by omega) (ev_pos (by rw [toI_len]; omega) ?_)))
    rw [rd_less]
    refine Ev.bind (items_ev (g.lt63 _)) ?_
    rw [hs_state (by omega)]
    refine implHeights_l1' g i (by omega) _ _ (hs_len p i) (by rw [List.length_replicate]; omega) (hs_le p i) _ _ 0 0 (Nat.zero_add _) (Nat.zero_le _) ?_
    rw [List.drop_zero, foldl_items_n _ _ (g.lt i (by omega)) (by omega)]
    have := implHeights_l0 g d (i + 1) (by omega)
    rw [← hs_next] at this; exact this
theorem implHeights_ev {p : List Nat} (g : Good p) : Ev (fun k => impl_Poset_heights.f k (toI p)) (toI (ht p)) := by
  have gl := g.le
  refine ev_call (n_eq _) (ev_pos (by omega) (ev_pos (by rw [toI_len]; omega) ?_))
  rw [toI_len, Int.toNat_natCast, show (0 : Int) = ((0 : Nat) : Int) from rfl, toI_rep]
  have := implHeights_l0 g p.length 0 (by omega)
  simpa [hs] using this
theorem l1Most_eq (a b : Nat) : spec_l1Most.f (a : Int) (b : Int) = some ((max a b : Nat) : Int) := by
  unfold spec_l1Most.f; split <;> (refine congrArg some ?_; omega)
theorem specHeights_l1 {p : List Nat} (g : Good p) (i : Nat) (hi : i < p.length) (a z : List Nat) (ha : a.length = i) (hz : i + 1 + z.length = p.length) (hb : ∀ e, a.getD e 0 ≤ e) (r : List Int) : ∀ (d e m : Nat), e + d = i →
    m ≤ i → Ev (fun k => spec_poHeights.l0 k (toI (a ++ (List.range' e d).foldl (fun m e => if (less p i).testBit e = true then max m (a.getD e 0 + 1) else m) m :: z)) (toI p) ((toI p).length : Int) ((i + 1 : Nat) : Int)) r →
    Ev (fun k => spec_poHeights.l1 k (toI (a ++ m :: z)) (i : Int) ((less p i : Nat) : Int) (e : Int) (toI p) ((toI p).length : Int) (i : Int)) r
  | 0, e, m, h, hm, c => by
    have := g.le
    refine Ev.step (fun _ => spec_poHeights.l1.eq_2 ..) (ev_neg (by omega) ?_)
    rw [wrap_succ (by omega)]
    exact c
  | d + 1, e, m, h, hm, c => by
    have gl := g.le
    have hx := hb e
    have e1 : rd (toI (a ++ m :: z)) (i : Int) = (m : Int) := by rw [rd_toI, ← ha, getD_app_at]
    have e2 : rd (toI (a ++ m :: z)) (e : Int) = ((a.getD e 0 : Nat) : Int) := by rw [rd_toI, getD_app_l (by omega)]
    rw [List.range'_succ, List.foldl_cons] at c
    refine Ev.step (fun _ => spec_poHeights.l1.eq_2 ..) (ev_pos (by omega) (ev_call (poIn_eq (by omega)) (ev_ite (fun ht => ?_) (fun ht => ?_))))
    · refine ev_pos (by omega) (ev_pos (by rw [toI_len]; simp; omega) (ev_pos (by omega) (ev_pos (by rw [toI_len]; simp; omega) ?_)))
      rw [e1, e2, wrap_succ (by omega)]
      refine ev_call (l1Most_eq _ _) ?_
      rw [Int.toNat_natCast, toI_set, wrap_succ (by omega)]
      have e3 : (a ++ m :: z).set i (max m (a.getD e 0 + 1)) = a ++ max m (a.getD e 0 + 1) :: z := by rw [← ha]; exact set_app_at
      rw [e3]
      rw [if_pos ht] at c
      exact specHeights_l1 g i hi a z ha hz hb r d (e + 1) _ (by omega) (by omega) c
    · rw [wrap_succ (by omega)]
      rw [if_neg ht] at c
      exact specHeights_l1 g i hi a z ha hz hb r d (e + 1) _ (by omega) (by omega) c
theorem specHeights_l0 {p : List Nat} (g : Good p) : ∀ (d i : Nat), i + d = p.length → Ev (fun k => spec_poHeights.l0 k (toI (hs p i ++ List.replicate (p.length - i) 0)) (toI p) ((toI p).length : Int) (i : Int)) (toI (ht p))
  | 0, i, h => by
    refine Ev.step (fun _ => spec_poHeights.l0.eq_2 ..) (ev_neg (by rw [toI_len]; omega) ?_)
    obtain rfl : i = p.length := by omega
    rw [Nat.sub_self, List.replicate_zero, List.append_nil]; exact Ev.now _
  | d + 1, i, h => by
    have gl := g.le
    refine Ev.step (fun _ => spec_poHeights.l0.eq_2 ..) (ev_pos (by rw [toI_len]; omega) (ev_pos (by omega) (ev_pos (by rw [toI_len]; omega) ?_)))
    rw [rd_less, hs_state (by omega)]
    refine specHeights_l1 g i (by omega) _ _ (hs_len p i) (by rw [List.length_replicate]; omega) (hs_le p i) _ i 0 0 (by omega) (Nat.zero_le _) ?_
    have := specHeights_l0 g d (i + 1) (by omega)
    rw [← hs_next] at this
    rw [← List.range_eq_range']; exact this
theorem specHeights_ev {p : List Nat} (g : Good p) : Ev (fun k => spec_poHeights.f k (toI p)) (toI (ht p)) := by
  have gl := g.le
  refine ev_pos (by omega) (ev_pos (by rw [toI_len]; omega) ?_)
  rw [toI_len, Int.toNat_natCast, show (0 : Int) = ((0 : Nat) : Int) from rfl, toI_rep]
  have := specHeights_l0 g p.length 0 (by omega)
  simpa [hs] using this
def covB (p : List Nat) (j i : Nat) : Bool := (less p i).testBit j && (List.range' (j + 1) (i - (j + 1))).all fun k => !((less p i).testBit k && (less p k).testBit j)
def pairs (p : List Nat) : List (List Int) := (List.range p.length).flatMap fun j => ((List.range p.length).filter fun i => covB p j i).map fun i => [((j : Nat) : Int), ((i : Nat) : Int)]
theorem foldSd_bit (p : List Nat) (s a i : Nat) : ∀ n, (foldBits n s (fun o e => sd o (less p e)) a).testBit i = true ↔ (a.testBit i = true ∧ ∀ e, e < n → s.testBit e = true → (less p e).testBit i = false)
  | 0 => by simp [foldBits]
  | n + 1 => by
    rw [foldBits_succ]
    have ih := foldSd_bit p s a i n
    split
    · rename_i hs
      rw [sd_bit, Bool.and_eq_true, ih, Bool.not_eq_true']
      constructor
      · rintro ⟨⟨h1, h2⟩, h3⟩
        refine ⟨h1, fun e he hb => ?_⟩
        by_cases c : e = n
        · subst c; exact h3
        · exact h2 e (by omega) hb
      · rintro ⟨h1, h2⟩
        exact ⟨⟨h1, fun e he hb => h2 e (by omega) hb⟩, h2 n (by omega) hs⟩
    · rename_i hs
      rw [ih]
      constructor
      · rintro ⟨h1, h2⟩
        refine ⟨h1, fun e he hb => ?_⟩
        by_cases c : e = n
        · subst c; exact absurd hb hs
        · exact h2 e (by omega) hb
      · rintro ⟨h1, h2⟩
        exact ⟨h1, fun e he hb => h2 e (by omega) hb⟩
def cov (p : List Nat) (i : Nat) : Nat := foldBits i (less p i) (fun o e => sd o (less p e)) (less p i)
theorem cov_bit {p : List Nat} (g : Good p) (i j : Nat) : (cov p i).testBit j = covB p j i := by
  unfold cov covB
  rw [Bool.eq_iff_iff, foldSd_bit, Bool.and_eq_true, List.all_eq_true]
  constructor
  · rintro ⟨h1, h2⟩
    refine ⟨h1, fun k hk => ?_⟩
    rw [List.mem_range'_1] at hk
    cases hb : (less p i).testBit k
    · rfl
    · rw [h2 k (by omega) hb]; rfl
  · rintro ⟨h1, h2⟩
    refine ⟨h1, fun k hk hb => ?_⟩
    cases hc : (less p k).testBit j
    · rfl
    · have b := g.bit hc
      have := h2 k (by rw [List.mem_range'_1]; omega)
      rw [hb, hc] at this; cases this
theorem covered_l0 {p : List Nat} (g : Good p) (s : Nat) (hs : s < 2 ^ p.length) : ∀ (d q a : Nat), q + d = (items s).length → a < 2 ^ p.length →
    Ev (fun k => impl_Poset_covered.l0 k (a : Int) (toI (items s)) ((toI (items s)).length : Int) (q : Int) (toI p)) (((((items s).drop q).foldl (fun o e => sd o (less p e)) a : Nat)) : Int)
  | 0, q, a, h, ha => by
    refine Ev.step (fun _ => impl_Poset_covered.l0.eq_2 ..) (ev_neg (by rw [toI_len]; omega) ?_)
    rw [List.drop_of_length_le (by omega)]; exact Ev.now _
  | d + 1, q, a, h, ha => by
    have hq : q < (items s).length := by omega
    have hm := items_get hq
    have hb := bit_lt hs hm.2
    have hl := items_len s
    refine Ev.step (fun _ => impl_Poset_covered.l0.eq_2 ..) ?_
    rw [rd_items hq, toI_len, toI_len]
    refine ev_pos (by omega) (ev_pos (by omega) (ev_pos (by omega) (ev_pos (by omega) (ev_pos (by omega) ?_))))
    rw [rd_less, bits_andNot (g.len63 ha) (g.lt63 _), wrap_succ (by omega), List.drop_eq_getElem_cons hq, List.foldl_cons, ← toI_len]
    exact covered_l0 g s hs d (q + 1) _ (by omega) (sd_lt _ ha)
theorem covered_ev {p : List Nat} (g : Good p) {i : Nat} (hi : i < p.length) : Ev (fun k => impl_Poset_covered.f k (toI p) (i : Int)) ((cov p i : Nat) : Int) := by
  refine ev_pos (by omega) (ev_pos (by rw [toI_len]; omega) ?_)
  rw [rd_less]
  refine Ev.bind (items_ev (g.lt63 i)) ?_
  have h := covered_l0 g (less p i) (g.lt10 i) _ 0 (less p i) (Nat.zero_add _) (g.lt10 i)
  rw [List.drop_zero, foldl_items_n _ _ (g.lt i hi) (by have := g.le; omega)] at h
  exact h
def pairsAt (p : List Nat) (j i d : Nat) : List (List Int) := ((List.range' i d).filter fun i => covB p j i).map fun i => [((j : Nat) : Int), ((i : Nat) : Int)]
def pairsTo (p : List Nat) (j d : Nat) : List (List Int) := (List.range' j d).flatMap fun j => pairsAt p j 0 p.length
theorem cov_lt {p : List Nat} (g : Good p) (i : Nat) : cov p i < 2 ^ 63 := g.len63 (foldBits_inv _ _ _ _ (· < 2 ^ p.length) (g.lt10 i) (fun a e ha _ _ => sd_lt _ ha))
theorem implCovers_l1 {p : List Nat} (g : Good p) (j : Nat) (hj : j < p.length) (r : List (List Int)) : ∀ (d i : Nat) (acc : List (List Int)), i + d = p.length → acc.length + d ≤ 1000 →
    Ev (fun k => impl_Poset_covers.l0 k (acc ++ pairsAt p j i d) (p.length : Int) ((j + 1 : Nat) : Int) (toI p)) r →
    Ev (fun k => impl_Poset_covers.l1 k acc (j : Int) (p.length : Int) (j : Int) (p.length : Int) (i : Int) (toI p)) r
  | 0, i, acc, h, ha, c => by
    have gl := g.le
    refine Ev.step (fun _ => impl_Poset_covers.l1.eq_2 ..) (ev_neg (by omega) ?_)
    rw [wrap_succ (by omega)]
    simpa [pairsAt] using c
  | d + 1, i, acc, h, ha, c => by
    have gl := g.le
    refine Ev.step (fun _ => impl_Poset_covers.l1.eq_2 ..) (ev_pos (by omega) (Ev.bind (covered_ev g (by omega)) (ev_call (has_eq (cov_lt g i) (by omega)) ?_)))
    rw [cov_bit g, wrap_succ (by omega)]
    refine ev_ite (fun e => ?_) (fun e => ?_)
    · refine ev_pos (by omega) (implCovers_l1 g j hj r d (i + 1) _ (by omega) (by simp; omega) ?_)
      rw [List.append_assoc]
      have : pairsAt p j i (d + 1) = [[(j : Int), (i : Int)]] ++ pairsAt p j (i + 1) d := by simp [pairsAt, List.range'_succ, e]
      rw [this] at c; exact c
    · refine implCovers_l1 g j hj r d (i + 1) _ (by omega) (by omega) ?_
      have : pairsAt p j i (d + 1) = pairsAt p j (i + 1) d := by simp [pairsAt, List.range'_succ, e]
      rw [this] at c; exact c
theorem pairsAt_len (p : List Nat) (j i d : Nat) : (pairsAt p j i d).length ≤ d := by
  unfold pairsAt
  rw [List.length_map]
  exact Nat.le_trans (List.length_filter_le _ _) (by simp)
theorem implCovers_l0 {p : List Nat} (g : Good p) : ∀ (d j : Nat) (acc : List (List Int)), j + d = p.length → acc.length + 10 * d ≤ 100 →
    Ev (fun k => impl_Poset_covers.l0 k acc (p.length : Int) (j : Int) (toI p)) (acc ++ pairsTo p j d)
  | 0, j, acc, h, ha => by
    refine Ev.step (fun _ => impl_Poset_covers.l0.eq_2 ..) (ev_neg (by omega) ?_)
    simpa [pairsTo] using Ev.now acc
  | d + 1, j, acc, h, ha => by
    have gl := g.le
    have := pairsAt_len p j 0 p.length
    refine Ev.step (fun _ => impl_Poset_covers.l0.eq_2 ..) (ev_pos (by omega) (ev_call (n_eq _) ?_))
    rw [toI_len]
    refine implCovers_l1 g j (by omega) _ p.length 0 acc (by omega) (by omega) ?_
    have ih := implCovers_l0 g d (j + 1) (acc ++ pairsAt p j 0 p.length) (by omega) (by simp; omega)
    rw [List.append_assoc] at ih
    have e : pairsTo p j (d + 1) = pairsAt p j 0 p.length ++ pairsTo p (j + 1) d := by simp [pairsTo, List.range'_succ]
    rw [e]; exact ih
theorem pairsTo_eq (p : List Nat) : pairsTo p 0 p.length = pairs p := by unfold pairsTo pairs pairsAt; rw [← List.range_eq_range']
theorem implCovers_ev {p : List Nat} (g : Good p) : Ev (fun k => impl_Poset_covers.f k (toI p)) (pairs p) := by
  have gl := g.le
  refine ev_call (n_eq _) ?_
  rw [toI_len]
  have := implCovers_l0 g p.length 0 [] (by omega) (by simp; omega)
  rw [List.nil_append, pairsTo_eq] at this; exact this
theorem specCov_l0 {p : List Nat} (g : Good p) (j i : Nat) (hj : j < p.length) (hi : i < p.length) : ∀ (d k : Nat), k + d = i → Ev (fun n => spec_poCovers.l0 n (j : Int) (i : Int) (k : Int) (toI p)) ((List.range' k d).all fun k => !((less p i).testBit k && (less p k).testBit j))
  | 0, k, h => by
    refine Ev.step (fun _ => spec_poCovers.l0.eq_2 ..) (ev_neg (by omega) ?_)
    simpa using Ev.now true
  | d + 1, k, h => by
    have gl := g.le
    have ih := specCov_l0 g j i hj hi d (k + 1) (by omega)
    refine Ev.step (fun _ => spec_poCovers.l0.eq_2 ..) (ev_pos (by omega) (ev_pos (by omega) (ev_pos (by rw [toI_len]; omega) ?_)))
    rw [rd_less, wrap_succ (by omega), List.range'_succ, List.all_cons]
    refine ev_call (poIn_eq (by omega)) (ev_ite (fun e => ?_) (fun e => ?_))
    · rw [e, Bool.true_and]
      refine ev_pos (by omega) (ev_pos (by rw [toI_len]; omega) ?_)
      rw [rd_less]
      refine ev_call (poIn_eq (by omega)) (ev_ite (fun e2 => ?_) (fun e2 => ?_))
      · rw [e2]; exact Ev.now _
      · rw [Bool.eq_false_iff.mpr e2, Bool.not_false, Bool.true_and]; exact ih
    · rw [Bool.eq_false_iff.mpr e, Bool.false_and, Bool.not_false, Bool.true_and]; exact ih
theorem specCov_ev {p : List Nat} (g : Good p) {j i : Nat} (hj : j < p.length) (hi : i < p.length) : Ev (fun k => spec_poCovers.f k (toI p) (j : Int) (i : Int)) (covB p j i) := by
  have gl := g.le
  refine ev_pos (by omega) (ev_pos (by rw [toI_len]; omega) ?_)
  rw [rd_less]
  unfold covB
  refine ev_call (poIn_eq (by omega)) (ev_ite (fun e => ?_) (fun e => ?_))
  · rw [e, Bool.true_and, wrap_succ (by omega)]
    have b := g.bit e
    by_cases hji : j + 1 ≤ i
    · exact specCov_l0 g j i hj hi _ (j + 1) (by omega)
    · omega
  · rw [Bool.eq_false_iff.mpr e, Bool.false_and]; exact Ev.now _
theorem specPairs_l1 {p : List Nat} (g : Good p) (j : Nat) (hj : j < p.length) (r : List (List Int)) : ∀ (d i : Nat) (acc : List (List Int)), i + d = p.length → acc.length + d ≤ 1000 →
    Ev (fun k => spec_poPairs.l0 k (acc ++ pairsAt p j i d) (p.length : Int) ((j + 1 : Nat) : Int) (toI p)) r →
    Ev (fun k => spec_poPairs.l1 k acc (j : Int) (p.length : Int) (j : Int) (p.length : Int) (i : Int) (toI p)) r
  | 0, i, acc, h, ha, c => by
    have gl := g.le
    refine Ev.step (fun _ => spec_poPairs.l1.eq_2 ..) (ev_neg (by omega) ?_)
    rw [wrap_succ (by omega)]
    simpa [pairsAt] using c
  | d + 1, i, acc, h, ha, c => by
    have gl := g.le
    refine Ev.step (fun _ => spec_poPairs.l1.eq_2 ..) (ev_pos (by omega) (Ev.bind (specCov_ev g hj (by omega)) ?_))
    rw [wrap_succ (by omega)]
    refine ev_ite (fun e => ?_) (fun e => ?_)
    · refine ev_pos (by omega) (specPairs_l1 g j hj r d (i + 1) _ (by omega) (by simp; omega) ?_)
      rw [List.append_assoc]
      have : pairsAt p j i (d + 1) = [[(j : Int), (i : Int)]] ++ pairsAt p j (i + 1) d := by simp [pairsAt, List.range'_succ, e]
      rw [this] at c; exact c
    · refine specPairs_l1 g j hj r d (i + 1) _ (by omega) (by omega) ?_
      have : pairsAt p j i (d + 1) = pairsAt p j (i + 1) d := by simp [pairsAt, List.range'_succ, e]
      rw [this] at c; exact c
theorem specPairs_l0 {p : List Nat} (g : Good p) : ∀ (d j : Nat) (acc : List (List Int)), j + d = p.length → acc.length + 10 * d ≤ 100 →
    Ev (fun k => spec_poPairs.l0 k acc (p.length : Int) (j : Int) (toI p)) (acc ++ pairsTo p j d)
  | 0, j, acc, h, ha => by
    refine Ev.step (fun _ => spec_poPairs.l0.eq_2 ..) (ev_neg (by omega) ?_)
    simpa [pairsTo] using Ev.now acc
  | d + 1, j, acc, h, ha => by
    have gl := g.le
    have := pairsAt_len p j 0 p.length
    refine Ev.step (fun _ => spec_poPairs.l0.eq_2 ..) (ev_pos (by omega) ?_)
    rw [toI_len]
    refine specPairs_l1 g j (by omega) _ p.length 0 acc (by omega) (by omega) ?_
    have ih := specPairs_l0 g d (j + 1) (acc ++ pairsAt p j 0 p.length) (by omega) (by simp; omega)
    rw [List.append_assoc] at ih
    have e : pairsTo p j (d + 1) = pairsAt p j 0 p.length ++ pairsTo p (j + 1) d := by simp [pairsTo, List.range'_succ]
    rw [e]; exact ih
theorem specPairs_ev {p : List Nat} (g : Good p) : Ev (fun k => spec_poPairs.f k (toI p)) (pairs p) := by
  have gl := g.le
  unfold spec_poPairs.f
  rw [toI_len]
  have := specPairs_l0 g p.length 0 [] (by omega) (by simp; omega)
  rw [List.nil_append, pairsTo_eq] at this; exact this
theorem mem_pairs {p : List Nat} {c : List Int} (h : c ∈ pairs p) : ∃ j i : Nat, c = [((j : Nat) : Int), ((i : Nat) : Int)] ∧ j < p.length ∧ i < p.length ∧ covB p j i = true := by
  unfold pairs at h
  simp only [List.mem_flatMap, List.mem_range, List.mem_map, List.mem_filter] at h
  obtain ⟨j, hj, i, ⟨hi, hc⟩, rfl⟩ := h
  exact ⟨j, i, rfl, hj, hi, hc⟩
theorem pairs_len {p : List Nat} (g : Good p) : (pairs p).length ≤ 100 := by
  have gl := g.le
  have : ∀ (d j : Nat), (pairsTo p j d).length ≤ 10 * d := by
    intro d
    induction d with
    | zero => intro j; simp [pairsTo]
    | succ d ih =>
      intro j
      have e : pairsTo p j (d + 1) = pairsAt p j 0 p.length ++ pairsTo p (j + 1) d := by simp [pairsTo, List.range'_succ]
      rw [e, List.length_append]
      have := pairsAt_len p j 0 p.length
      have := ih (j + 1)
      omega
  rw [← pairsTo_eq]
  have := this p.length 0
  omega
def rankedB (p : List Nat) : Bool := (pairs p).all fun c => rd (toI (ht p)) (rd c 1) == rd (toI (ht p)) (rd c 0) + 1
theorem poRanked_l0 {p : List Nat} (g : Good p) : ∀ (d q : Nat), q + d = (pairs p).length → Ev (fun k => spec_poRanked.l0 k (toI (ht p)) (pairs p) ((pairs p).length : Int) (q : Int)) (((pairs p).drop q).all fun c => rd (toI (ht p)) (rd c 1) == rd (toI (ht p)) (rd c 0) + 1)
  | 0, q, h => by
    refine Ev.step (fun _ => spec_poRanked.l0.eq_2 ..) (ev_neg (by omega) ?_)
    rw [List.drop_of_length_le (by omega)]; exact Ev.now _
  | d + 1, q, h => by
    have gl := g.le
    have hp := pairs_len g
    have hq : q < (pairs p).length := by omega
    have er : rd_L1 (pairs p) (q : Int) = (pairs p)[q] := by simp [rd_L1, List.getD_eq_getElem?_getD, hq]
    obtain ⟨j, i, e, hj, hi, hc⟩ := mem_pairs (List.getElem_mem hq)
    have e0 : rd (pairs p)[q] 0 = (j : Int) := by rw [e]; rfl
    have e1 : rd (pairs p)[q] 1 = (i : Int) := by rw [e]; rfl
    have el : (pairs p)[q].length = 2 := by rw [e]; rfl
    have b0 := hh_le p j
    refine Ev.step (fun _ => spec_poRanked.l0.eq_2 ..) (ev_pos (by omega) (ev_pos (by omega) (ev_pos (by omega) ?_)))
    have ih := poRanked_l0 g d (q + 1) (by omega)
    have hj' : rd (toI (ht p)) (j : Int) = ((hh p j : Nat) : Int) := rd_toI _ _
    rw [er, e0, e1, el, List.drop_eq_getElem_cons hq, List.all_cons, e0, e1, wrap_succ (by omega), toI_len, ht_len, hj', wrap_succ (by omega)]
    refine ev_pos (by omega) (ev_pos (by omega) (ev_pos (by omega) (ev_pos (by omega) (ev_pos (by omega) (ev_pos (by omega) (ev_ite (fun e => ?_) (fun e => ?_)))))))
    · have e' : (rd (toI (ht p)) (i : Int) == ((hh p j : Nat) : Int) + 1) = true := by rw [beq_iff_eq, e]; rfl
      rw [e', Bool.true_and]; exact ih
    · have e' : (rd (toI (ht p)) (i : Int) == ((hh p j : Nat) : Int) + 1) = false := by rw [beq_eq_false_iff_ne]; exact e
      rw [e', Bool.false_and]; exact Ev.now _
theorem poRanked_ev {p : List Nat} (g : Good p) : Ev (fun k => spec_poRanked.f k (toI p)) (rankedB p) :=
  Ev.bind (specHeights_ev g) (Ev.bind (specPairs_ev g) (poRanked_l0 g _ 0 (Nat.zero_add _)))
def rgB (l : List Int) : Bool := goodB l && rankedB (l.map Int.toNat)
theorem rvGood_ev (l : List Int) : Ev (fun k => spec_rvGood.f k l) (rgB l) := by
  refine Ev.bind (poGood_ev l) ?_
  unfold rgB
  refine ev_ite (fun e => ?_) (fun e => ?_)
  · obtain ⟨p, rfl, g⟩ := goodB_of e
    rw [e, Bool.true_and, toNat_toI]
    exact Ev.bind (poRanked_ev g) (Ev.now _)
  · rw [Bool.eq_false_iff.mpr e, Bool.false_and]; exact Ev.now _
theorem isRanked_ok {p : List Nat} (g : Good p) : impl_IsRanked.ok (toI (ht p)) (pairs p) = true := by
  unfold impl_IsRanked.ok
  have := pairs_len g
  rw [Bool.and_eq_true, decide_eq_true_eq, List.all_eq_true]
  refine ⟨by omega, fun c hc => ?_⟩
  obtain ⟨j, i, rfl, hj, hi, _⟩ := mem_pairs hc
  have e0 : rd [((j : Nat) : Int), ((i : Nat) : Int)] 0 = (j : Int) := rfl
  have e1 : rd [((j : Nat) : Int), ((i : Nat) : Int)] 1 = (i : Int) := rfl
  rw [e0, e1, toI_len, ht_len]
  simp only [Bool.and_eq_true, decide_eq_true_eq]
  exact ⟨⟨⟨⟨rfl, by omega⟩, by omega⟩, by omega⟩, by omega⟩
theorem isRanked_any {p : List Nat} (g : Good p) : (!((pairs p).any (impl_IsRanked.p (toI (ht p))))) = rankedB p := by
  unfold rankedB
  rw [Bool.eq_iff_iff, Bool.not_eq_true', List.any_eq_false, List.all_eq_true]
  refine forall_congr' fun c => forall_congr' fun hc => ?_
  obtain ⟨j, i, rfl, hj, hi, _⟩ := mem_pairs hc
  have e0 : rd [((j : Nat) : Int), ((i : Nat) : Int)] 0 = (j : Int) := rfl
  have hj' : rd (toI (ht p)) (j : Int) = ((hh p j : Nat) : Int) := rd_toI _ _
  have b0 := hh_le p j
  have gl := g.le
  unfold impl_IsRanked.p
  rw [e0, hj', wrap_succ (by omega), Int.natCast_succ, bne_iff_ne, ne_eq, Classical.not_not, beq_iff_eq]
theorem IsRanked_ev (l : List Int) : Ev (fun k => impl_IsRanked.f k l) (rgB l, goodB l) := by
  refine Ev.bind (isPoset_ev l) ?_
  unfold rgB
  refine ev_ite (fun e => ?_) (fun e => ?_)
  · obtain ⟨p, rfl, g⟩ := goodB_of e
    rw [e, Bool.true_and, toNat_toI]
    refine Ev.bind (implHeights_ev g) (Ev.bind (implCovers_ev g) (ev_pos (isRanked_ok g) ?_))
    rw [isRanked_any g]; exact Ev.now _
  · rw [Bool.eq_false_iff.mpr e, Bool.false_and]; exact Ev.now _
theorem isRanked_ev (l : List Int) : Ev (fun k => impl_isRanked.f k l) (rgB l) := Ev.bind (IsRanked_ev l) (Ev.now _)
theorem rgB_of {l : List Int} (h : rgB l = true) : ∃ p, l = toI p ∧ Good p ∧ rankedB p = true := by
  unfold rgB at h
  rw [Bool.and_eq_true] at h
  obtain ⟨p, rfl, g⟩ := goodB_of h.1
  exact ⟨p, rfl, g, by rw [toNat_toI] at h; exact h.2⟩
end Go.Proofs.Ytpdgiinedbdamaa.M
end
section
namespace Go.Proofs.Ytpdgiinedbdamaa.M
open Go.RowKit Go.Proofs.YtpdgiinedbdamaaW.PrintWords Go.Proofs.YtpdgiinedbdamaaW.PrintLast Go.Proofs.YtpdgiinedbdamaaW.PrintMore Go.Proofs.Ytpdgiinedbdamaa.L
set_option linter.unusedVariables false
def mask (p : List Nat) (r : Nat) : Nat → Nat
  | 0 => 0
  | i + 1 => if hh p i = r then mask p r i ||| 2 ^ i else mask p r i
theorem mask_lt (p : List Nat) (r : Nat) : ∀ i, mask p r i < 2 ^ i
  | 0 => by simp [mask]
  | i + 1 => by
    have := mask_lt p r i
    have h2 : 2 ^ i < 2 ^ (i + 1) := Nat.pow_lt_pow_right (by decide) (by omega)
    unfold mask
    split
    · exact Nat.or_lt_two_pow (by omega) h2
    · omega
theorem mask_bit (p : List Nat) (r e : Nat) : ∀ i, (mask p r i).testBit e = (decide (e < i) && decide (hh p e = r))
  | 0 => by simp [mask]
  | i + 1 => by
    have ih := mask_bit p r e i
    unfold mask
    split
    · rename_i h
      rw [Nat.testBit_or, ih, Nat.testBit_two_pow]
      by_cases c : i = e
      · subst c; simp [h]
      · by_cases c2 : e < i
        · simp [c, c2, show e < i + 1 by omega]
        · simp [c, c2, show ¬ e < i + 1 by omega]
    · rename_i h
      rw [ih]
      by_cases c : i = e
      · subst c; simp [h]
      · by_cases c2 : e < i
        · simp [c2, show e < i + 1 by omega]
        · simp [c2, show ¬ e < i + 1 by omega]
def mxs (p : List Nat) : Nat → Nat
  | 0 => 0
  | i + 1 => max (mxs p i) (hh p i + 1)
def hgh (p : List Nat) : Nat := mxs p p.length
theorem mxs_le (p : List Nat) : ∀ i, mxs p i ≤ i
  | 0 => Nat.le_refl _
  | i + 1 => by have := mxs_le p i; have := hh_le p i; unfold mxs; omega
theorem mxs_ge (p : List Nat) {e : Nat} : ∀ i, e < i → hh p e + 1 ≤ mxs p i
  | 0, h => by omega
  | i + 1, h => by
    unfold mxs
    by_cases c : e = i
    · subst c; omega
    · have := mxs_ge p i (e := e) (by omega); omega
theorem mask_zero (p : List Nat) {r : Nat} : ∀ i, mxs p i ≤ r → mask p r i = 0
  | 0, _ => rfl
  | i + 1, h => by
    unfold mxs at h
    unfold mask
    rw [if_neg (by omega)]
    exact mask_zero p i (by omega)
def rks (p : List Nat) (M i : Nat) : List Nat := (List.range M).map fun r => mask p r i
theorem rks_len (p : List Nat) (M i : Nat) : (rks p M i).length = M := by simp [rks]
theorem rks_get (p : List Nat) {M i r : Nat} (h : r < M) : (rks p M i).getD r 0 = mask p r i := by simp [rks, List.getD_eq_getElem?_getD, h]
theorem rks_set (p : List Nat) {M i : Nat} : (rks p M i).set (hh p i) (mask p (hh p i) i ||| 2 ^ i) = rks p M (i + 1) := by
  apply List.ext_getElem (by simp [rks])
  intro r h1 h2
  rw [List.getElem_set]
  simp only [rks, List.getElem_map, List.getElem_range]
  by_cases c : hh p i = r
  · rw [if_pos c, mask, if_pos c, c]
  · rw [if_neg c, mask, if_neg c]
theorem rks_grow (p : List Nat) {M i : Nat} (h : mxs p i ≤ M) : toI (rks p M i) ++ [0] = toI (rks p (M + 1) i) := by
  unfold rks
  rw [List.range_succ, List.map_append, List.map_singleton, mask_zero p i h, toI_app]; rfl
theorem ht_eq (p : List Nat) : ht p = (List.range p.length).map (hh p) := by
  apply List.ext_getElem (by simp [ht_len])
  intro i h1 h2
  rw [List.getElem_map, List.getElem_range]
  simp [hh, List.getD_eq_getElem?_getD, h1]
theorem fold_mxs (p : List Nat) : ∀ i, (List.range i).foldl (fun a e => max a (hh p e + 1)) 0 = mxs p i
  | 0 => rfl
  | i + 1 => by rw [List.range_succ, List.foldl_append, fold_mxs p i]; rfl
theorem fold_mx (l : List Nat) : ∀ a : Nat, (toI l).foldl (fun m x => mx m x) (a : Int) = ((l.foldl max a : Nat) : Int) := by
  induction l with
  | nil => intro a; rfl
  | cons x l ih => intro a; rw [List.foldl_cons, ← ih (max a x), ← mx_nat]; rfl
theorem fold_max1 (l : List Nat) : ∀ a : Nat, l.foldl max a + 1 = l.foldl (fun a x => max a (x + 1)) (a + 1) := by
  induction l with
  | nil => intro a; rfl
  | cons x l ih => intro a; rw [List.foldl_cons, List.foldl_cons, ih, show max (a + 1) (x + 1) = max a x + 1 by omega]
theorem max_ev {p : List Nat} (g : Good p) : slices_Max_int_int.f (toI (ht p)) = some (((hgh p : Nat) : Int) - 1) := by
  have gl := g.le
  have gp := g.pos
  have e1 : hgh p = (ht p).foldl (fun a x => max a (x + 1)) 0 := by rw [ht_eq, List.foldl_map, fold_mxs]; rfl
  unfold slices_Max_int_int.f
  rw [if_pos (by rw [toI_len, ht_len]; omega)]
  refine congrArg some ?_
  unfold slices_Max_int_int.g
  rw [e1]
  cases hl : ht p with
  | nil => have := ht_len p; rw [hl] at this; simp at this; omega
  | cons x t =>
    have e2 : rd (toI (x :: t)) 0 = (x : Int) := rfl
    have e3 : (toI (x :: t)).drop 1 = toI t := rfl
    rw [e2, e3, fold_mx, List.foldl_cons, show max 0 (x + 1) = x + 1 by omega, ← fold_max1]
    omega
theorem implRanks_l0 {p : List Nat} (g : Good p) : ∀ (d i : Nat), i + d = p.length → Ev (fun k => impl_Poset_ranks.l0 k (toI (rks p (hgh p) i)) (toI (ht p)) ((toI (ht p)).length : Int) (i : Int)) (toI (rks p (hgh p) p.length))
  | 0, i, h => by
    refine Ev.step (fun _ => impl_Poset_ranks.l0.eq_2 ..) (ev_neg (by rw [toI_len, ht_len]; omega) ?_)
    obtain rfl : i = p.length := by omega
    exact Ev.now _
  | d + 1, i, h => by
    have gl := g.le
    have hm := mxs_ge p (e := i) p.length (by omega)
    have hm' : hh p i < hgh p := hm
    have ei : rd (toI (ht p)) (i : Int) = ((hh p i : Nat) : Int) := rd_toI _ _
    refine Ev.step (fun _ => impl_Poset_ranks.l0.eq_2 ..) (ev_pos (by rw [toI_len, ht_len]; omega) (ev_pos (by omega) (ev_pos (by rw [toI_len, ht_len]; omega) ?_)))
    rw [ei]
    refine ev_pos (by omega) (ev_pos (by rw [toI_len, rks_len]; omega) ?_)
    have h2 : 2 ^ i < 2 ^ 63 := Nat.pow_lt_pow_right (by decide) (by omega)
    have hml := Go.Proofs.Ytpdgiinedbdamaa.M.lt63 (mask_lt p (hh p i) i) (by omega)
    rw [rd_toI, rks_get p hm', shl_one (by omega), bits_or hml h2, Int.toNat_natCast, toI_set, rks_set, wrap_succ (by omega)]
    exact implRanks_l0 g d (i + 1) (by omega)
def ranks (p : List Nat) : List Nat := rks p (hgh p) p.length
theorem hgh_le {p : List Nat} (g : Good p) : 1 ≤ hgh p ∧ hgh p ≤ 10 := by
  have := mxs_le p p.length
  have := g.le
  have := g.pos
  have := mxs_ge p (e := 0) p.length (by omega)
  unfold hgh; omega
theorem implRanks_ev {p : List Nat} (g : Good p) : Ev (fun k => impl_Poset_ranks.f k (toI p)) (toI (ranks p)) := by
  have gh := hgh_le g
  refine Ev.bind (implHeights_ev g) (ev_call (max_ev g) ?_)
  rw [show ((hgh p : Nat) : Int) - 1 + 1 = ((hgh p : Nat) : Int) by omega, wrap_id (by omega) (by omega), Int.toNat_natCast]
  refine ev_pos (by omega) (ev_pos (by omega) ?_)
  have := implRanks_l0 g p.length 0 (by omega)
  have e : List.replicate (hgh p) (0 : Int) = toI (rks p (hgh p) 0) := by
    rw [show (0 : Int) = ((0 : Nat) : Int) from rfl, toI_rep]
    congr 1
    exact (List.eq_replicate_iff.mpr ⟨by simp [rks], by simp [rks, mask]⟩).symm
  rw [e]; exact this
theorem specRanks_l1 {p : List Nat} (g : Good p) (i : Nat) (hi : i < p.length) (r : List Int) (c : Ev (fun k => spec_rvRanks.l0 k (toI (rks p (mxs p (i + 1)) (i + 1))) (toI (ht p)) ((toI (ht p)).length : Int) ((i + 1 : Nat) : Int)) r) : ∀ (d M : Nat), hh p i + 1 ≤ M + d → mxs p i ≤ M → M ≤ mxs p (i + 1) →
    Ev (fun k => spec_rvRanks.l1 k (toI (rks p M i)) (i : Int) ((hh p i : Nat) : Int) (toI (ht p)) ((toI (ht p)).length : Int) (i : Int)) r
  | d, M, h, h1, h2 => by
    have gl := g.le
    have hle := hh_le p i
    have hM := mxs_le p (i + 1)
    by_cases hc : M ≤ hh p i
    · match d, h with
      | 0, h => omega
      | d + 1, h =>
        refine Ev.step (fun _ => spec_rvRanks.l1.eq_2 ..) (ev_pos (by rw [toI_len, rks_len]; omega) (ev_pos (by rw [toI_len, rks_len]; omega) ?_))
        rw [rks_grow p h1]
        exact specRanks_l1 g i hi r c d (M + 1) (by omega) (by omega) (by unfold mxs; omega)
    · refine Ev.step (fun _ => spec_rvRanks.l1.eq_2 ..) (ev_neg (by rw [toI_len, rks_len]; omega) (ev_pos (by omega) (ev_pos (by rw [toI_len, rks_len]; omega) (ev_pos (by omega) ?_))))
      have h3 : 2 ^ i < 2 ^ 63 := Nat.pow_lt_pow_right (by decide) (by omega)
      have hml := Go.Proofs.Ytpdgiinedbdamaa.M.lt63 (mask_lt p (hh p i) i) (by omega)
      rw [rd_toI, rks_get p (by omega), shl_one (by omega), bits_or hml h3, Int.toNat_natCast, toI_set, rks_set, wrap_succ (by omega)]
      have e : M = mxs p (i + 1) := by
        have : mxs p (i + 1) = max (mxs p i) (hh p i + 1) := rfl
        omega
      rw [e]; exact c
theorem specRanks_l0 {p : List Nat} (g : Good p) : ∀ (d i : Nat), i + d = p.length → Ev (fun k => spec_rvRanks.l0 k (toI (rks p (mxs p i) i)) (toI (ht p)) ((toI (ht p)).length : Int) (i : Int)) (toI (ranks p))
  | 0, i, h => by
    refine Ev.step (fun _ => spec_rvRanks.l0.eq_2 ..) (ev_neg (by rw [toI_len, ht_len]; omega) ?_)
    obtain rfl : i = p.length := by omega
    exact Ev.now _
  | d + 1, i, h => by
    have gl := g.le
    have ei : rd (toI (ht p)) (i : Int) = ((hh p i : Nat) : Int) := rd_toI _ _
    refine Ev.step (fun _ => spec_rvRanks.l0.eq_2 ..) (ev_pos (by rw [toI_len, ht_len]; omega) (ev_pos (by omega) (ev_pos (by rw [toI_len, ht_len]; omega) ?_)))
    rw [ei]
    exact specRanks_l1 g i (by omega) _ (specRanks_l0 g d (i + 1) (by omega)) (hh p i + 1) _ (by omega) (Nat.le_refl _) (by show mxs p i ≤ max _ _; omega)
theorem specRanks_ev {p : List Nat} (g : Good p) : Ev (fun k => spec_rvRanks.f k (toI p)) (toI (ranks p)) :=
  Ev.bind (specHeights_ev g) (specRanks_l0 g p.length 0 (by omega))
theorem ranks_len (p : List Nat) : (ranks p).length = hgh p := rks_len p _ _
theorem ranks_get (p : List Nat) {r : Nat} (h : r < hgh p) : rd (toI (ranks p)) (r : Int) = ((mask p r p.length : Nat) : Int) := by rw [rd_toI]; exact congrArg _ (rks_get p h)
theorem high_ev {p : List Nat} (g : Good p) : Ev (fun k => impl_Poset_high.f k (toI p)) (((hgh p - 1 : Nat) : Int)) := by
  have := hgh_le g
  refine Ev.bind (implRanks_ev g) ?_
  rw [toI_len, ranks_len, wrap_id (by omega) (by omega), show ((hgh p : Nat) : Int) - 1 = ((hgh p - 1 : Nat) : Int) by omega]
  exact Ev.now _
def tgS (p : List Nat) (s m : Nat) : Nat := foldBits p.length m (tg p) s
theorem tgS_lt {p : List Nat} {s m : Nat} (hs : s < 2 ^ p.length) : tgS p s m < 2 ^ p.length := foldBits_inv _ _ _ _ (· < 2 ^ p.length) hs (fun a e ha he _ => tg_lt ha he)
theorem tgS_id {p : List Nat} {s m : Nat} (hs : IsId p s) : IsId p (tgS p s m) := foldBits_inv _ _ _ _ (IsId p) hs (fun a e ha he _ => tg_id ha he)
theorem rvAt_l0 {p : List Nat} (g : Good p) (m : Nat) : ∀ (d i s : Nat), i + d = p.length → s < 2 ^ p.length →
    Ev (fun k => spec_rvAt.l0 k (s : Int) (m : Int) (p.length : Int) (i : Int) (toI p)) ((((List.range' i d).foldl (fun s e => if m.testBit e = true then tg p s e else s) s : Nat)) : Int)
  | 0, i, s, h, hs => Ev.step (fun _ => spec_rvAt.l0.eq_2 ..) (ev_neg (by omega) (Ev.now _))
  | d + 1, i, s, h, hs => by
    have gl := g.le
    refine Ev.step (fun _ => spec_rvAt.l0.eq_2 ..) (ev_pos (by omega) (ev_call (poIn_eq (by omega)) ?_))
    rw [List.range'_succ, List.foldl_cons, wrap_succ (by omega)]
    refine ev_ite (fun e => ?_) (fun e => ?_)
    · rw [if_pos e]
      exact Ev.bind (tgAt_ev g hs (by omega)) (rvAt_l0 g m d (i + 1) _ (by omega) (tg_lt hs (by omega)))
    · rw [if_neg e]; exact rvAt_l0 g m d (i + 1) s (by omega) hs
theorem rvAt_ev {p : List Nat} (g : Good p) (m : Nat) {s : Nat} (hs : s < 2 ^ p.length) : Ev (fun k => spec_rvAt.f k (toI p) (s : Int) (m : Int)) (((tgS p s m : Nat)) : Int) := by
  unfold spec_rvAt.f
  rw [toI_len]
  have := rvAt_l0 g m p.length 0 s (by omega) hs
  rw [← List.range_eq_range'] at this; exact this
def tgR (p : List Nat) (s r : Nat) : Nat := tgS p s (mask p r p.length)
theorem toggleRanks_l0 {p : List Nat} (g : Good p) (w : List Nat) (hw : ∀ r ∈ w, r < hgh p) (hl : w.length ≤ 100000) : ∀ (d q s : Nat), q + d = w.length → s < 2 ^ p.length →
    Ev (fun k => impl_Poset_toggleRanks.l0 k (s : Int) (toI (ranks p)) (toI w) ((toI w).length : Int) (q : Int) (toI p)) ((((w.drop q).foldl (tgR p) s : Nat)) : Int)
  | 0, q, s, h, hs => by
    refine Ev.step (fun _ => impl_Poset_toggleRanks.l0.eq_2 ..) (ev_neg (by rw [toI_len]; omega) ?_)
    rw [List.drop_of_length_le (by omega)]; exact Ev.now _
  | d + 1, q, s, h, hs => by
    have gl := g.le
    have hq : q < w.length := by omega
    have hr := hw _ (List.getElem_mem hq)
    have hmk := mask_lt p w[q] p.length
    have er : rd (toI w) (q : Int) = ((w[q] : Nat) : Int) := by rw [rd_toI]; simp [List.getD_eq_getElem?_getD, hq]
    refine Ev.step (fun _ => impl_Poset_toggleRanks.l0.eq_2 ..) (ev_pos (by rw [toI_len]; omega) (ev_pos (by omega) (ev_pos (by rw [toI_len]; omega) ?_)))
    rw [er]
    refine ev_pos (by omega) (ev_pos (by rw [toI_len, ranks_len]; omega) ?_)
    rw [ranks_get p hr, List.drop_eq_getElem_cons hq, List.foldl_cons, wrap_succ (by omega)]
    refine Ev.bind (items_ev (g.len63 hmk)) ?_
    refine Ev.bind (toggles_ev g (items (mask p w[q] p.length)) (fun e he => bit_lt hmk (mem_items.mp he).2) (by have := items_len (mask p w[q] p.length); omega) hs) ?_
    rw [foldl_items_n _ _ hmk gl]
    exact toggleRanks_l0 g w hw hl d (q + 1) _ (by omega) (tgS_lt hs)
theorem toggleRanks_ev {p : List Nat} (g : Good p) (w : List Nat) (hw : ∀ r ∈ w, r < hgh p) (hl : w.length ≤ 100000) {s : Nat} (hs : s < 2 ^ p.length) : Ev (fun k => impl_Poset_toggleRanks.f k (toI p) (s : Int) (toI w)) (((w.foldl (tgR p) s : Nat)) : Int) := by
  refine Ev.bind (implRanks_ev g) ?_
  have := toggleRanks_l0 g w hw hl w.length 0 s (by omega) hs
  rwa [List.drop_zero] at this
end Go.Proofs.Ytpdgiinedbdamaa.M
end
section
namespace Go.Proofs.Ytpdgiinedbdamaa.M
open Go.RowKit Go.Proofs.YtpdgiinedbdamaaW.PrintWords Go.Proofs.YtpdgiinedbdamaaW.PrintLast Go.Proofs.YtpdgiinedbdamaaW.PrintMore Go.Proofs.Ytpdgiinedbdamaa.L
set_option linter.unusedVariables false
theorem between {p : List Nat} {i j : Nat} (h : covB p j i = false) (hb : (less p i).testBit j = true) : ∃ k, (less p i).testBit k = true ∧ (less p k).testBit j = true := by
  unfold covB at h
  rw [hb, Bool.true_and, List.all_eq_false] at h
  obtain ⟨k, _, hk⟩ := h
  rw [Bool.not_eq_true', Bool.not_eq_false, Bool.and_eq_true] at hk
  exact ⟨k, hk⟩
theorem can_step {p : List Nat} (g : Good p) {s i j : Nat} (hs : IsId p s) (ht : IsId p (s ^^^ 2 ^ i)) (hij : i ≠ j) (c1 : covB p i j = false) (c2 : covB p j i = false) (h : Can p s j) : Can p (s ^^^ 2 ^ i) j := by
  refine ⟨fun h1 f hf => ?_, fun h1 f hf => ?_⟩
  · rw [xor_ne hij] at h1
    apply Bool.eq_false_iff.mpr
    intro hc
    by_cases c : i = f
    · subst c
      obtain ⟨k, hk1, hk2⟩ := between c2 hc
      have b := g.bit hk1
      have := ht.2 i hf k hk1
      rw [xor_ne (by omega)] at this
      rw [h.1 h1 k this] at hk2; cases hk2
    · rw [xor_ne c] at hf
      rw [h.1 h1 f hf] at hc; cases hc
  · rw [xor_ne hij] at h1
    have hsf := h.2 h1 f hf
    by_cases c : i = f
    · subst c
      obtain ⟨k, hk1, hk2⟩ := between c1 hf
      have b := g.bit hk2
      have hk := h.2 h1 k hk1
      have hk' : (s ^^^ 2 ^ i).testBit k = true := by rw [xor_ne (by omega)]; exact hk
      exact ht.2 k hk' i hk2
    · rw [xor_ne c]; exact hsf
theorem can_tg {p : List Nat} (g : Good p) {s i j : Nat} (hs : IsId p s) (hi : i < p.length) (hij : i ≠ j) (c1 : covB p i j = false) (c2 : covB p j i = false) : Can p (tg p s i) j ↔ Can p s j := by
  have ht := tg_id hs hi
  unfold tg at ht ⊢
  split
  · rename_i h
    rw [if_pos h] at ht
    refine ⟨fun h2 => ?_, fun h2 => can_step g hs ht hij c1 c2 h2⟩
    have e : s ^^^ 2 ^ i ^^^ 2 ^ i = s := by rw [Nat.xor_assoc, Nat.xor_self, Nat.xor_zero]
    have := can_step (s := s ^^^ 2 ^ i) g ht (by rw [e]; exact hs) hij c1 c2 h2
    rwa [e] at this
  · exact Iff.rfl
theorem tg_if {p : List Nat} (g : Good p) {s e : Nat} (hs : IsId p s) (he : e < p.length) (C : Prop) [Decidable C] (h : Can p s e ↔ C) : tg p s e = if C then s ^^^ 2 ^ e else s := by
  unfold tg
  by_cases c : C
  · rw [if_pos c, if_pos ((can_iff g hs he).mpr (h.mpr c))]
  · rw [if_neg c, if_neg (fun hc => c (h.mp ((can_iff g hs he).mp hc)))]
theorem tg_comm {p : List Nat} (g : Good p) {s i j : Nat} (hs : IsId p s) (hi : i < p.length) (hj : j < p.length) (c1 : covB p i j = false) (c2 : covB p j i = false) : tg p (tg p s i) j = tg p (tg p s j) i := by
  by_cases hij : i = j
  · rw [hij]
  · have e1 := tg_if g (tg_id hs hi) hj (idealB p (s ^^^ 2 ^ j) = true) ((can_tg g hs hi hij c1 c2).trans (can_iff g hs hj).symm)
    have e2 := tg_if g (tg_id hs hj) hi (idealB p (s ^^^ 2 ^ i) = true) ((can_tg g hs hj (Ne.symm hij) c2 c1).trans (can_iff g hs hi).symm)
    rw [e1, e2]
    unfold tg
    by_cases a : idealB p (s ^^^ 2 ^ i) = true <;> by_cases b : idealB p (s ^^^ 2 ^ j) = true
    · rw [if_pos b, if_pos a, if_pos a, if_pos b, Nat.xor_assoc, Nat.xor_assoc, Nat.xor_comm (2 ^ i)]
    · rw [if_neg b, if_pos a, if_pos a, if_neg b]
    · rw [if_pos b, if_neg a, if_neg a, if_pos b]
    · rw [if_neg b, if_neg a, if_neg a, if_neg b]
def Free (p : List Nat) (a b : Nat) : Prop := ∀ x y, a.testBit x = true → b.testBit y = true → covB p x y = false ∧ covB p y x = false
theorem fold_comm {p : List Nat} (g : Good p) {b x : Nat} (hx : x < p.length) : ∀ (n : Nat), n ≤ p.length → ∀ (s : Nat), IsId p s → (∀ y, y < n → b.testBit y = true → covB p x y = false ∧ covB p y x = false) →
    tg p (foldBits n b (tg p) s) x = foldBits n b (tg p) (tg p s x)
  | 0, hn, s, hs, h => rfl
  | n + 1, hn, s, hs, h => by
    have ih := fold_comm g hx n (by omega) s hs fun y hy hb => h y (by omega) hb
    rw [foldBits_succ, foldBits_succ]
    split
    · rename_i hb
      have hi : IsId p (foldBits n b (tg p) s) := foldBits_inv _ _ _ _ (IsId p) hs (fun a e ha he _ => tg_id ha (by omega))
      have hc := h n (by omega) hb
      rw [tg_comm g hi (by omega) hx hc.2 hc.1, ih]
    · exact ih
theorem fold_union {p : List Nat} (g : Good p) {a b : Nat} (hab : ∀ x, a.testBit x = true → b.testBit x = false) (hf : Free p a b) : ∀ (n : Nat), n ≤ p.length → ∀ (s : Nat), IsId p s → foldBits n (a ||| b) (tg p) s = foldBits n b (tg p) (foldBits n a (tg p) s)
  | 0, hn, s, hs => rfl
  | n + 1, hn, s, hs => by
    have ih := fold_union g hab hf n (by omega) s hs
    have hi : IsId p (foldBits n a (tg p) s) := foldBits_inv _ _ _ _ (IsId p) hs (fun a e ha he _ => tg_id ha (by omega))
    rw [foldBits_succ, foldBits_succ, foldBits_succ, Nat.testBit_or, ih]
    by_cases ha : a.testBit n = true
    · have hb := hab n ha
      rw [ha, hb, Bool.true_or, if_pos rfl, if_pos rfl, if_neg (by simp)]
      exact fold_comm g (by omega) n (by omega) _ hi fun y hy hby => hf n y ha hby
    · rw [Bool.eq_false_iff.mpr ha, Bool.false_or, if_neg (c := false = true) (by simp)]
theorem tgS_union {p : List Nat} (g : Good p) {a b s : Nat} (hab : ∀ x, a.testBit x = true → b.testBit x = false) (hf : Free p a b) (hs : IsId p s) : tgS p s (a ||| b) = tgS p (tgS p s a) b := fold_union g hab hf _ (Nat.le_refl _) s hs
theorem ranked_cov {p : List Nat} (hr : rankedB p = true) {i j : Nat} (hi : i < p.length) (hj : j < p.length) (h : covB p j i = true) : hh p i = hh p j + 1 := by
  unfold rankedB at hr
  rw [List.all_eq_true] at hr
  have hm : [((j : Nat) : Int), ((i : Nat) : Int)] ∈ pairs p := by
    unfold pairs
    simp only [List.mem_flatMap, List.mem_range, List.mem_map, List.mem_filter]
    exact ⟨j, hj, i, ⟨hi, h⟩, rfl⟩
  have := hr _ hm
  have e0 : rd [((j : Nat) : Int), ((i : Nat) : Int)] 0 = (j : Int) := rfl
  have e1 : rd [((j : Nat) : Int), ((i : Nat) : Int)] 1 = (i : Int) := rfl
  have hj' : rd (toI (ht p)) (j : Int) = ((hh p j : Nat) : Int) := rd_toI _ _
  have hi' : rd (toI (ht p)) (i : Int) = ((hh p i : Nat) : Int) := rd_toI _ _
  rw [e0, e1, hi', hj', beq_iff_eq] at this
  omega
def parM (p : List Nat) (b : Nat) : Nat → Nat
  | 0 => 0
  | r + 1 => if r % 2 = b then parM p b r ||| mask p r p.length else parM p b r
def parW (b : Nat) : Nat → List Nat
  | 0 => []
  | r + 1 => if r % 2 = b then parW b r ++ [r] else parW b r
theorem parM_bit (p : List Nat) (b x : Nat) : ∀ r, (parM p b r).testBit x = true → x < p.length ∧ hh p x < r ∧ hh p x % 2 = b
  | 0, h => by simp [parM] at h
  | r + 1, h => by
    unfold parM at h
    split at h
    · rw [Nat.testBit_or, Bool.or_eq_true] at h
      rcases h with h | h
      · have := parM_bit p b x r h; omega
      · rw [mask_bit, Bool.and_eq_true, decide_eq_true_eq, decide_eq_true_eq] at h; omega
    · have := parM_bit p b x r h; omega
theorem par_free {p : List Nat} (hr : rankedB p = true) {a c : Nat} (b : Nat) (ha : ∀ x, a.testBit x = true → x < p.length ∧ hh p x % 2 = b) (hc : ∀ x, c.testBit x = true → x < p.length ∧ hh p x % 2 = b) : Free p a c := by
  intro x y hx hy
  have h1 := ha x hx
  have h2 := hc y hy
  constructor
  · apply Bool.eq_false_iff.mpr; intro h
    have := ranked_cov hr h2.1 h1.1 h; omega
  · apply Bool.eq_false_iff.mpr; intro h
    have := ranked_cov hr h1.1 h2.1 h; omega
theorem par_up {p : List Nat} (g : Good p) (hr : rankedB p = true) (b : Nat) : ∀ (r : Nat) (s : Nat), IsId p s → tgS p s (parM p b r) = (parW b r).foldl (tgR p) s
  | 0, s, hs => by
    show foldBits p.length 0 (tg p) s = s
    exact foldl_none 0 (tg p) _ s fun e _ => Nat.zero_testBit e
  | r + 1, s, hs => by
    have ih := par_up g hr b r s hs
    unfold parM parW
    split
    · rename_i hb
      rw [List.foldl_append, ← ih]
      refine tgS_union g (fun x hx => ?_) (par_free hr b (fun x hx => ?_) (fun x hx => ?_)) hs
      · have := parM_bit p b x r hx
        rw [mask_bit, Bool.and_eq_false_iff]; right; rw [decide_eq_false_iff_not]; omega
      · have := parM_bit p b x r hx; omega
      · rw [mask_bit, Bool.and_eq_true, decide_eq_true_eq, decide_eq_true_eq] at hx; omega
    · exact ih
theorem parM_lt {p : List Nat} (b : Nat) : ∀ r, parM p b r < 2 ^ p.length
  | 0 => Nat.two_pow_pos _
  | r + 1 => by
    unfold parM; split
    · exact Nat.or_lt_two_pow (parM_lt b r) (mask_lt p r _)
    · exact parM_lt b r
theorem mem_parW {b x : Nat} : ∀ {r}, x ∈ parW b r → x < r
  | 0, h => by simp [parW] at h
  | r + 1, h => by
    unfold parW at h; split at h
    · rw [List.mem_append, List.mem_singleton] at h
      rcases h with h | h
      · have := mem_parW h; omega
      · omega
    · have := mem_parW h; omega
theorem parW_len (b : Nat) : ∀ r, (parW b r).length ≤ r
  | 0 => Nat.le_refl _
  | r + 1 => by
    have := parW_len b r
    unfold parW; split
    · simp; omega
    · omega
end Go.Proofs.Ytpdgiinedbdamaa.M
end
section
namespace Go.Proofs.Ytpdgiinedbdamaa.M
open Go.RowKit Go.Proofs.YtpdgiinedbdamaaW.PrintWords Go.Proofs.YtpdgiinedbdamaaW.PrintLast Go.Proofs.YtpdgiinedbdamaaW.PrintMore Go.Proofs.Ytpdgiinedbdamaa.L
set_option linter.unusedVariables false
theorem rvGyrate_l0 {p : List Nat} (g : Good p) {s : Nat} (hs : IsId p s) (back : Bool) : ∀ (d r : Nat), r + d = hgh p →
    Ev (fun k => spec_rvGyrate.l0 k (s : Int) back ((parM p 0 r : Nat) : Int) ((parM p 1 r : Nat) : Int) (toI (ranks p)) ((toI (ranks p)).length : Int) (r : Int) (toI p))
      (((if back = true then tgS p (tgS p s (parM p 1 (hgh p))) (parM p 0 (hgh p)) else tgS p (tgS p s (parM p 0 (hgh p))) (parM p 1 (hgh p)) : Nat)) : Int)
  | 0, r, h => by
    refine Ev.step (fun _ => spec_rvGyrate.l0.eq_2 ..) (ev_neg (by rw [toI_len, ranks_len]; omega) ?_)
    obtain rfl : r = hgh p := by omega
    refine ev_ite (fun e => ?_) (fun e => ?_)
    · rw [if_pos e]
      exact Ev.bind (rvAt_ev g _ hs.1) (Ev.bind (rvAt_ev g _ (tgS_lt hs.1)) (Ev.now _))
    · rw [if_neg e]
      exact Ev.bind (rvAt_ev g _ hs.1) (Ev.bind (rvAt_ev g _ (tgS_lt hs.1)) (Ev.now _))
  | d + 1, r, h => by
    have gh := hgh_le g
    have ih := rvGyrate_l0 g hs back d (r + 1) (by omega)
    have hm := g.len63 (mask_lt p r p.length)
    have e0 := g.len63 (parM_lt (p := p) 0 r)
    have e1 := g.len63 (parM_lt (p := p) 1 r)
    have em : Int.tmod (r : Int) 2 = ((r % 2 : Nat) : Int) := by rw [Int.tmod_eq_emod_of_nonneg (by omega)]; omega
    refine Ev.step (fun _ => spec_rvGyrate.l0.eq_2 ..) (ev_pos (by rw [toI_len, ranks_len]; omega) (ev_pos (by omega) (ev_pos (by rw [toI_len, ranks_len]; omega) ?_)))
    rw [ranks_get p (by omega), bits_or e0 hm, bits_or e1 hm, wrap_succ (by omega), em]
    refine ev_ite (fun e => ?_) (fun e => ?_)
    · have h0 : parM p 0 (r + 1) = parM p 0 r ||| mask p r p.length := by rw [parM, if_pos (by omega)]
      have h1 : parM p 1 (r + 1) = parM p 1 r := by rw [parM, if_neg (by omega)]
      rw [h0, h1] at ih; exact ih
    · have h0 : parM p 0 (r + 1) = parM p 0 r := by rw [parM, if_neg (by omega)]
      have h1 : parM p 1 (r + 1) = parM p 1 r ||| mask p r p.length := by rw [parM, if_pos (by omega)]
      rw [h0, h1] at ih; exact ih
theorem rvGyrate_ev {p : List Nat} (g : Good p) {s : Nat} (hs : IsId p s) (back : Bool) : Ev (fun k => spec_rvGyrate.f k (toI p) (s : Int) back)
      (((if back = true then tgS p (tgS p s (parM p 1 (hgh p))) (parM p 0 (hgh p)) else tgS p (tgS p s (parM p 0 (hgh p))) (parM p 1 (hgh p)) : Nat)) : Int) :=
  Ev.bind (specRanks_ev g) (rvGyrate_l0 g hs back (hgh p) 0 (by omega))
def gyW (h : Nat) : List Nat := parW 0 h ++ parW 1 h
def fil (h b x : Nat) : List Nat := (List.range' x (h - x)).filter fun r => decide (r % 2 = b)
theorem fil_step {h b x : Nat} (hb : x % 2 = b) (hx : x < h) : fil h b x = x :: fil h b (x + 2) := by
  unfold fil
  obtain ⟨n, hn⟩ : ∃ n, h - x = n + 1 := ⟨h - x - 1, by omega⟩
  rw [hn, List.range'_succ, List.filter_cons_of_pos (by simpa using hb)]
  congr 1
  cases n with
  | zero => rw [show h - (x + 2) = 0 by omega]; rfl
  | succ m => rw [List.range'_succ, List.filter_cons_of_neg (by simp; omega), show h - (x + 2) = m by omega]
theorem fil_end {h b x : Nat} (hx : h ≤ x) : fil h b x = [] := by unfold fil; rw [show h - x = 0 by omega]; rfl
theorem parW_fil (b : Nat) : ∀ h, parW b h = (List.range h).filter fun r => decide (r % 2 = b)
  | 0 => rfl
  | h + 1 => by
    unfold parW
    rw [List.range_succ, List.filter_append, ← parW_fil b h]
    split
    · rename_i hb; rw [List.filter_cons_of_pos (by simpa using hb)]; rfl
    · rename_i hb; rw [List.filter_cons_of_neg (by simpa using hb)]; simp
theorem parW_0 (h : Nat) : parW 0 h = fil h 0 0 := by rw [parW_fil, List.range_eq_range']; rfl
theorem parW_1 {h : Nat} (hp : 1 ≤ h) : parW 1 h = fil h 1 1 := by
  rw [parW_fil, List.range_eq_range']
  obtain ⟨n, rfl⟩ : ∃ n, h = n + 1 := ⟨h - 1, by omega⟩
  rw [List.range'_succ, List.filter_cons_of_neg (by simp)]; rfl
theorem gy_l1 {p : List Nat} (g : Good p) (b q : Nat) (hq : q < 2) (r : List Int) : ∀ (d x : Nat) (acc : List Nat), hgh p ≤ x + 2 * d → x % 2 = b → x ≤ hgh p + 1 → acc.length + d ≤ 1000 →
    Ev (fun k => impl_Poset_gyration.l0 k (toI (acc ++ fil (hgh p) b x)) [0, 1] (([0, 1] : List Int).length : Int) ((q + 1 : Nat) : Int) (toI p)) r →
    Ev (fun k => impl_Poset_gyration.l1 k (toI acc) (x : Int) [0, 1] (([0, 1] : List Int).length : Int) (q : Int) (toI p)) r
  | d, x, acc, hd, hx, h1, ha, c => by
    have gh := hgh_le g
    refine Ev.step (fun _ => impl_Poset_gyration.l1.eq_2 ..) (Ev.bind (high_ev g) ?_)
    by_cases hc : x < hgh p
    · match d, hd, ha with
      | 0, hd, ha => omega
      | d + 1, hd, ha =>
        refine ev_pos (by omega) (ev_pos (by rw [toI_len]; omega) ?_)
        rw [wrap_id (by omega) (by omega), show (x : Int) + 2 = ((x + 2 : Nat) : Int) by omega, ← toI_one, ← toI_app]
        refine gy_l1 g b q hq r d (x + 2) _ (by omega) (by omega) (by omega) (by simp; omega) ?_
        rw [fil_step hx hc] at c
        rw [List.append_assoc]; exact c
    · refine ev_neg (by omega) ?_
      rw [wrap_succ (by omega)]
      rw [fil_end (by omega), List.append_nil] at c; exact c
theorem gy_ev {p : List Nat} (g : Good p) : Ev (fun k => impl_Poset_gyration.f k (toI p)) (toI (gyW (hgh p))) := by
  have gh := hgh_le g
  refine ev_call rfl ?_
  refine Ev.step (fun _ => impl_Poset_gyration.l0.eq_2 ..) (ev_pos (by decide) (ev_pos (by decide) (ev_pos (by decide) ?_)))
  refine gy_l1 g 0 0 (by decide) _ 10 0 [] (by omega) rfl (by omega) (by simp) ?_
  refine Ev.step (fun _ => impl_Poset_gyration.l0.eq_2 ..) (ev_pos (by decide) (ev_pos (by decide) (ev_pos (by decide) ?_)))
  have hl := parW_len 0 (hgh p)
  rw [parW_0] at hl
  refine gy_l1 g 1 1 (by decide) _ 10 1 _ (by omega) rfl (by omega) (by rw [List.nil_append]; omega) ?_
  refine Ev.step (fun _ => impl_Poset_gyration.l0.eq_2 ..) (ev_neg (by decide) ?_)
  rw [List.nil_append, ← parW_0, ← parW_1 (by omega)]
  exact Ev.now _
theorem gyW_lt {p : List Nat} : ∀ r ∈ gyW (hgh p), r < hgh p := fun r hr => by
  unfold gyW at hr
  rw [List.mem_append] at hr
  rcases hr with h | h <;> exact mem_parW h
theorem gyW_len (h : Nat) : (gyW h).length ≤ 2 * h := by
  have := parW_len 0 h
  have := parW_len 1 h
  unfold gyW; rw [List.length_append]; omega
theorem gy_fold {p : List Nat} (g : Good p) (hr : rankedB p = true) {s : Nat} (hs : IsId p s) : (gyW (hgh p)).foldl (tgR p) s = tgS p (tgS p s (parM p 0 (hgh p))) (parM p 1 (hgh p)) := by
  unfold gyW
  rw [List.foldl_append, ← par_up g hr 0 _ s hs, ← par_up g hr 1 _ _ (tgS_id hs)]
end Go.Proofs.Ytpdgiinedbdamaa.M
end
