/- Laws about the given program: the law FnExactSortedLengths answers true for every input that its row lets in; no condition is added to the given statement. Contracts of the Go functions that it reaches, and the plain proof over lists. -/
import Derived.Below
import Derived.ChangeOld
import Derived.Lib.SmallJoins
import Derived.OpenShut
import Derived.ProofKit
import Derived.ShutString
import Derived.SizedLaws
import Derived.Test.YtpdgiinedbdamaaRows
import Derived.WalkKit
import Derived.Test.YtpdgiinedbdamaaWFnExactSortedLengths0
import Derived.Test.YtpdgiinedbdamaaKFnExactSortedLengths0
import Derived.Test.YtpdgiinedbdamaaKFnExactSortedLengths1
import Derived.Test.YtpdgiinedbdamaaKFnExactSortedLengths2
import Derived.Test.YtpdgiinedbdamaaKFnExactSortedLengths3
import Derived.Test.YtpdgiinedbdamaaKFnExactSortedLengths4
import Derived.Test.YtpdgiinedbdamaaKFnExactSortedLengths5
import Derived.Test.YtpdgiinedbdamaaKFnExactSortedLengths6
import Derived.Test.YtpdgiinedbdamaaKFnExactSortedLengths7
import Derived.Test.YtpdgiinedbdamaaKFnExactSortedLengths8
import Derived.Test.YtpdgiinedbdamaaKFnExactSortedLengths9
section
namespace Go.Proofs.Ytpdgiinedbdamaa.L
open Go.RowKit Go.Proofs.YtpdgiinedbdamaaW.PrintWords Go.Proofs.YtpdgiinedbdamaaW.PrintLast Go.Proofs.YtpdgiinedbdamaaW.PrintMore
attribute [local go_sem] max2_int min2_int max_two min_two max_three min_three max_four min_four
set_option linter.unusedVariables false
set_option linter.unusedSimpArgs false
def impl_isRankedIdeal.f (k : Nat) (l0_0 : List Int) (a1 : Int) : Option (Bool) := (impl_isIdeal.f k l0_0 a1).bind fun t267 => (if t267 = true then ((impl_isRanked.f k l0_0).bind fun t268 => (some t268)) else (some false))
theorem impl_isRankedIdeal.mono : ∀ a0 a1 k, LeO (impl_isRankedIdeal.f k a0 a1) (impl_isRankedIdeal.f (k + 1) a0 a1) := by
 intro a0 a1 k
 unfold impl_isRankedIdeal.f
 repeat' first
   | (with_reducible exact impl_isIdeal.mono _ _ _)
   | (with_reducible exact impl_isRanked.mono _ _)
   | (with_reducible exact LeO.refl _)
   | (with_reducible exact LeO.none _)
   | (with_reducible refine LeO.ite ?_ ?_)
   | (with_reducible refine LeO.bind ?_ (fun _ => ?_))
   | exact impl_isIdeal.mono _ _ _
   | exact impl_isRanked.mono _ _
   | exact LeO.none _
   | refine LeO.ite ?_ ?_
   | refine LeO.bind ?_ (fun _ => ?_)
set_option maxHeartbeats 8000000 in
set_option maxRecDepth 100000 in
theorem impl_isRankedIdeal.calls (k : Nat) (A0_0 : Option Addr) (c0_0 : Nat) (l0_0 : List Int) (a1 : Int) (r : Bool) (w : World) (hr0_0 : Kd.C (Kd.int .i64) w A0_0 l0_0.length l0_0) (hc0_0 : l0_0.length ≤ c0_0) (h : impl_isRankedIdeal.f k l0_0 a1 = some r) :
  Calls Try.prog 50 #[.agg #[.slice A0_0 l0_0.length c0_0], .int .i64 a1] w fun e w' => e = .returned (.bool r) ∧ Below w.heap.size w w' := by
 have hu28 := Try.underlying28
 have HR0_0 := Aside0.mk hr0_0
 have HC0_0 := Aside0.mk hc0_0
 clear hr0_0 hc0_0
 have HB := Aside0.mk (Below.refl w.heap.size w)
 have H : ((impl_isIdeal.f k l0_0 a1).bind fun t267 => (if t267 = true then ((impl_isRanked.f k l0_0).bind fun t268 => (some t268)) else (some false))) = some r := h
 clear h
 replace H := Option.bind_eq_some_iff.mp H
 obtain ⟨t267, A30, H⟩ := H
 replace H : (if t267 = true then ((impl_isRanked.f k l0_0).bind fun t268 => (some t268)) else (some false)) = some r := H
 have A3 := Aside0.mk A30
 clear A30
 by_cases c4 : t267 = true
 ·
  subst c4
  have H1 : ((impl_isRanked.f k l0_0).bind fun t268 => (some t268)) = some r := by rw [if_pos rfl] at H; exact H
  clear H
  have H := H1
  clear H1
  replace H := Option.bind_eq_some_iff.mp H
  obtain ⟨t268, A50, H⟩ := H
  replace H : (some t268) = some r := H
  have A5 := Aside0.mk A50
  clear A50
  obtain rfl := Option.some.inj H
  go_enter Try.func50, Try.ntmps50
  go_wp2_with (first | ((with_reducible refine gate_dst (N := 2) rfl ?_); refine box_event ?hg (N := 2) ?hd (cs := #[.slice A0_0 l0_0.length c0_0]) (t := 28) ?hr ?_; (case hd => rfl); (case hg => rfl); (case hr => first | (go_simp; done) | (go_simp; rfl)); intro gb266 hg w6 hbox hb; have n0_ := Aside0.mk (below_step (by repeat (first | (with_reducible first | exact HB.out | apply below_alloc | apply pw_below_drewN | apply below_drew1) | exact HB.out)) hb); have n1_ := Aside0.mk (hbox); have n2_ := Aside0.mk ((by rw [hg]; exact (below_size (by repeat (first | (with_reducible first | exact HB.out | apply below_alloc | apply pw_below_drewN | apply below_drew1) | exact HB.out))) : w.heap.size ≤ gb266)); have n3_ := Aside0.mk ((by rw [hg]; exact (below_size (by repeat (first | (with_reducible first | exact HB.out | apply below_alloc | apply pw_below_drewN | apply below_drew1) | exact HB.out))) : w.heap.size ≤ gb266)); clear HB; have HB := n0_; have BK266 := n1_; have GW266 := n2_; have GE266 := n3_; clear n0_ n1_ n2_ n3_; clear hb hbox hg; have hcz7_0 : w6.cell? ⟨gb266, 0, none⟩ = some (.slice A0_0 l0_0.length c0_0) := (blk_cell BK266.out 0).trans rfl; have hfz7_0 := blk_frozen BK266.out 0) | ((with_reducible refine gate_callee (f := 103) rfl ?_); refine goesL_ (some 7) rfl rfl Try.func103 (by kernel_rfl) rfl #[.agg #[.slice A0_0 l0_0.length c0_0], .int .i64 a1] rfl (by (try simp only [List.map_toArray, List.map_cons, List.map_nil]); first | done | rfl | (simp only [List.length_drop, List.length_take]; rfl)) ?_; (with_reducible refine (impl_isIdeal.calls k _ _ l0_0 a1 true _ ?side1 ?side2 A3.out).mono ?_); (case side1 => repeat (first | exact (Kd.C_below HR0_0.out HB.out) | (with_reducible refine Kd.C_alloc ?_ _) | (with_reducible refine Kd.C_drewN ?_ _) | (with_reducible refine Kd.C_drew ?_))); (case side2 => exact HC0_0.out); rintro e w8 ⟨rfl, hb⟩; refine ⟨_, rfl, ?_⟩; have n0_ := Aside0.mk (blk_below (g := gb266) (o := .cells #[.slice A0_0 l0_0.length c0_0] 28 (0, 0)) (by (with_reducible repeat (first | refine blk_drewN ?_ _ | refine blk_drew ?_ | refine blk_alloc ?_ _)); exact BK266.out) hb); have n1_ := Aside0.mk (below_step (by repeat (first | (with_reducible first | exact HB.out | apply below_alloc | apply pw_below_drewN | apply below_drew1 | refine below_set ?_ GE266.out) | exact HB.out)) hb); clear BK266; clear HB; have BK266 := n0_; have HB := n1_; clear n0_ n1_; (try clear hb); (try clear hb2); (try clear hk); (try clear hi); have hcz9_0 : w8.cell? ⟨gb266, 0, none⟩ = some (.slice A0_0 l0_0.length c0_0) := (blk_cell BK266.out 0).trans rfl; have hfz9_0 := blk_frozen BK266.out 0) | (go_at_call 79; (with_reducible refine (impl_isRanked.calls k _ _ l0_0 t268 _ ?side1 ?side2 A5.out).mono ?_); (case side1 => repeat (first | exact (Kd.C_below HR0_0.out HB.out) | (with_reducible refine Kd.C_alloc ?_ _) | (with_reducible refine Kd.C_drewN ?_ _) | (with_reducible refine Kd.C_drew ?_))); (case side2 => exact HC0_0.out); rintro e w10 ⟨rfl, hb⟩; have n0_ := Aside0.mk (blk_below (g := gb266) (o := .cells #[.slice A0_0 l0_0.length c0_0] 28 (0, 0)) (by (with_reducible repeat (first | refine blk_drewN ?_ _ | refine blk_drew ?_ | refine blk_alloc ?_ _)); exact BK266.out) hb); have n1_ := Aside0.mk (below_step (by repeat (first | (with_reducible first | exact HB.out | apply below_alloc | apply pw_below_drewN | apply below_drew1 | refine below_set ?_ GE266.out) | exact HB.out)) hb); clear BK266; clear HB; have BK266 := n0_; have HB := n1_; clear n0_ n1_; (try clear hb); (try clear hb2); (try clear hk); (try clear hi)))
  go_ret
  exact ⟨by first | rfl | (simp [errW_none, errW_some] <;> rfl) | (simp [*, errW_none, errW_some] <;> rfl), by repeat (first | (with_reducible first | exact HB.out | apply below_alloc | apply pw_below_drewN | apply below_drew1 | refine below_set ?_ GE266.out) | exact HB.out)⟩
 ·
  replace c4 := Bool.eq_false_iff.mpr c4
  subst c4
  have H1 : (some false) = some r := by rw [if_neg (show ¬ (false = true) by decide)] at H; exact H
  clear H
  have H := H1
  clear H1
  obtain rfl := Option.some.inj H
  go_enter Try.func50, Try.ntmps50
  go_wp2_with (first | ((with_reducible refine gate_dst (N := 2) rfl ?_); refine box_event ?hg (N := 2) ?hd (cs := #[.slice A0_0 l0_0.length c0_0]) (t := 28) ?hr ?_; (case hd => rfl); (case hg => rfl); (case hr => first | (go_simp; done) | (go_simp; rfl)); intro gb266 hg w11 hbox hb; have n0_ := Aside0.mk (below_step (by repeat (first | (with_reducible first | exact HB.out | apply below_alloc | apply pw_below_drewN | apply below_drew1) | exact HB.out)) hb); have n1_ := Aside0.mk (hbox); have n2_ := Aside0.mk ((by rw [hg]; exact (below_size (by repeat (first | (with_reducible first | exact HB.out | apply below_alloc | apply pw_below_drewN | apply below_drew1) | exact HB.out))) : w.heap.size ≤ gb266)); have n3_ := Aside0.mk ((by rw [hg]; exact (below_size (by repeat (first | (with_reducible first | exact HB.out | apply below_alloc | apply pw_below_drewN | apply below_drew1) | exact HB.out))) : w.heap.size ≤ gb266)); clear HB; have HB := n0_; have BK266 := n1_; have GW266 := n2_; have GE266 := n3_; clear n0_ n1_ n2_ n3_; clear hb hbox hg; have hcz12_0 : w11.cell? ⟨gb266, 0, none⟩ = some (.slice A0_0 l0_0.length c0_0) := (blk_cell BK266.out 0).trans rfl; have hfz12_0 := blk_frozen BK266.out 0) | ((with_reducible refine gate_callee (f := 103) rfl ?_); refine goesL_ (some 7) rfl rfl Try.func103 (by kernel_rfl) rfl #[.agg #[.slice A0_0 l0_0.length c0_0], .int .i64 a1] rfl (by (try simp only [List.map_toArray, List.map_cons, List.map_nil]); first | done | rfl | (simp only [List.length_drop, List.length_take]; rfl)) ?_; (with_reducible refine (impl_isIdeal.calls k _ _ l0_0 a1 false _ ?side1 ?side2 A3.out).mono ?_); (case side1 => repeat (first | exact (Kd.C_below HR0_0.out HB.out) | (with_reducible refine Kd.C_alloc ?_ _) | (with_reducible refine Kd.C_drewN ?_ _) | (with_reducible refine Kd.C_drew ?_))); (case side2 => exact HC0_0.out); rintro e w13 ⟨rfl, hb⟩; refine ⟨_, rfl, ?_⟩; have n0_ := Aside0.mk (blk_below (g := gb266) (o := .cells #[.slice A0_0 l0_0.length c0_0] 28 (0, 0)) (by (with_reducible repeat (first | refine blk_drewN ?_ _ | refine blk_drew ?_ | refine blk_alloc ?_ _)); exact BK266.out) hb); have n1_ := Aside0.mk (below_step (by repeat (first | (with_reducible first | exact HB.out | apply below_alloc | apply pw_below_drewN | apply below_drew1 | refine below_set ?_ GE266.out) | exact HB.out)) hb); clear BK266; clear HB; have BK266 := n0_; have HB := n1_; clear n0_ n1_; (try clear hb); (try clear hb2); (try clear hk); (try clear hi)))
  go_ret
  exact ⟨by first | rfl | (simp [errW_none, errW_some] <;> rfl) | (simp [*, errW_none, errW_some] <;> rfl), by repeat (first | (with_reducible first | exact HB.out | apply below_alloc | apply pw_below_drewN | apply below_drew1 | refine below_set ?_ GE266.out) | exact HB.out)⟩
end Go.Proofs.Ytpdgiinedbdamaa.L
end
section
namespace Go.Proofs.Ytpdgiinedbdamaa.L
open Go.RowKit Go.Proofs.YtpdgiinedbdamaaW.PrintWords Go.Proofs.YtpdgiinedbdamaaW.PrintLast Go.Proofs.YtpdgiinedbdamaaW.PrintMore
attribute [local go_sem] max2_int min2_int max_two min_two max_three min_three max_four min_four
set_option linter.unusedVariables false
set_option linter.unusedSimpArgs false
def impl_GyrateIdeal.f (k : Nat) (l0_0 : List Int) (a1 : Int) : Option (Int × Bool) := (impl_isRankedIdeal.f k l0_0 a1).bind fun t312 => (if t312 = true then ((impl_Poset_gyration.f k l0_0).bind fun t313 => ((impl_Poset_toggleRanks.f k l0_0 a1 t313).bind fun t316 => (some (t316, true)))) else (some (0, false)))
theorem impl_GyrateIdeal.mono : ∀ a0 a1 k, LeO (impl_GyrateIdeal.f k a0 a1) (impl_GyrateIdeal.f (k + 1) a0 a1) := by
 intro a0 a1 k
 unfold impl_GyrateIdeal.f
 repeat' first
   | (with_reducible exact impl_Poset_gyration.mono _ _)
   | (with_reducible exact impl_Poset_toggleRanks.mono _ _ _ _)
   | (with_reducible exact impl_isRankedIdeal.mono _ _ _)
   | (with_reducible exact LeO.refl _)
   | (with_reducible exact LeO.none _)
   | (with_reducible refine LeO.ite ?_ ?_)
   | (with_reducible refine LeO.bind ?_ (fun _ => ?_))
   | exact impl_Poset_gyration.mono _ _
   | exact impl_Poset_toggleRanks.mono _ _ _ _
   | exact impl_isRankedIdeal.mono _ _ _
   | exact LeO.none _
   | refine LeO.ite ?_ ?_
   | refine LeO.bind ?_ (fun _ => ?_)
set_option maxHeartbeats 8000000 in
set_option maxRecDepth 100000 in
theorem impl_GyrateIdeal.calls (k : Nat) (A0_0 : Option Addr) (c0_0 : Nat) (l0_0 : List Int) (a1 : Int) (r1 : Int) (r2 : Bool) (w : World) (hr0_0 : Kd.C (Kd.int .i64) w A0_0 l0_0.length l0_0) (hc0_0 : l0_0.length ≤ c0_0) (h : impl_GyrateIdeal.f k l0_0 a1 = some (r1, r2)) :
  Calls Try.prog 17 #[.agg #[.slice A0_0 l0_0.length c0_0], .int .i64 a1] w fun e w' => e = .returned (.tuple #[.int .i64 r1, .bool r2]) ∧ Below w.heap.size w w' := by
 have hu28 := Try.underlying28
 have HR0_0 := Aside0.mk hr0_0
 have HC0_0 := Aside0.mk hc0_0
 clear hr0_0 hc0_0
 have HB := Aside0.mk (Below.refl w.heap.size w)
 have H : ((impl_isRankedIdeal.f k l0_0 a1).bind fun t312 => (if t312 = true then ((impl_Poset_gyration.f k l0_0).bind fun t313 => ((impl_Poset_toggleRanks.f k l0_0 a1 t313).bind fun t316 => (some (t316, true)))) else (some (0, false)))) = some (r1, r2) := h
 clear h
 replace H := Option.bind_eq_some_iff.mp H
 obtain ⟨t312, A30, H⟩ := H
 replace H : (if t312 = true then ((impl_Poset_gyration.f k l0_0).bind fun t313 => ((impl_Poset_toggleRanks.f k l0_0 a1 t313).bind fun t316 => (some (t316, true)))) else (some (0, false))) = some (r1, r2) := H
 have A3 := Aside0.mk A30
 clear A30
 by_cases c4 : t312 = true
 ·
  subst c4
  have H1 : ((impl_Poset_gyration.f k l0_0).bind fun t313 => ((impl_Poset_toggleRanks.f k l0_0 a1 t313).bind fun t316 => (some (t316, true)))) = some (r1, r2) := by rw [if_pos rfl] at H; exact H
  clear H
  have H := H1
  clear H1
  replace H := Option.bind_eq_some_iff.mp H
  obtain ⟨t313, A50, H⟩ := H
  replace H : ((impl_Poset_toggleRanks.f k l0_0 a1 t313).bind fun t316 => (some (t316, true))) = some (r1, r2) := H
  have A5 := Aside0.mk A50
  clear A50
  replace H := Option.bind_eq_some_iff.mp H
  obtain ⟨t316, A60, H⟩ := H
  replace H : (some (t316, true)) = some (r1, r2) := H
  have A6 := Aside0.mk A60
  clear A60
  simp only [Option.some.injEq, Prod.mk.injEq] at H
  obtain ⟨rfl, rfl⟩ := H
  go_enter Try.func17, Try.ntmps17
  try go_wp2_with (first | ((with_reducible refine gate_dst (N := 2) rfl ?_); refine box_event ?hg (N := 2) ?hd (cs := #[.slice A0_0 l0_0.length c0_0]) (t := 28) ?hr ?_; (case hd => rfl); (case hg => rfl); (case hr => first | (go_simp; done) | (go_simp; rfl)); intro gb311 hg w7 hbox hb; have n0_ := Aside0.mk (below_step (by repeat (first | (with_reducible first | exact HB.out | apply below_alloc | apply pw_below_drewN | apply below_drew1) | exact HB.out)) hb); have n1_ := Aside0.mk (hbox); have n2_ := Aside0.mk ((by rw [hg]; exact (below_size (by repeat (first | (with_reducible first | exact HB.out | apply below_alloc | apply pw_below_drewN | apply below_drew1) | exact HB.out))) : w.heap.size ≤ gb311)); have n3_ := Aside0.mk ((by rw [hg]; exact (below_size (by repeat (first | (with_reducible first | exact HB.out | apply below_alloc | apply pw_below_drewN | apply below_drew1) | exact HB.out))) : w.heap.size ≤ gb311)); clear HB; have HB := n0_; have BK311 := n1_; have GW311 := n2_; have GE311 := n3_; clear n0_ n1_ n2_ n3_; clear hb hbox hg; have hcz8_0 : w7.cell? ⟨gb311, 0, none⟩ = some (.slice A0_0 l0_0.length c0_0) := (blk_cell BK311.out 0).trans rfl; have hfz8_0 := blk_frozen BK311.out 0) | ((with_reducible refine gate_callee (f := 50) rfl ?_); refine goesL_ (some 8) rfl rfl Try.func50 (by kernel_rfl) rfl #[.agg #[.slice A0_0 l0_0.length c0_0], .int .i64 a1] rfl (by (try simp only [List.map_toArray, List.map_cons, List.map_nil]); first | done | rfl | (simp only [List.length_drop, List.length_take]; rfl)) ?_; (with_reducible refine (impl_isRankedIdeal.calls k _ _ l0_0 a1 true _ ?side1 ?side2 A3.out).mono ?_); (case side1 => repeat (first | exact (Kd.C_below HR0_0.out HB.out) | (with_reducible refine Kd.C_alloc ?_ _) | (with_reducible refine Kd.C_drewN ?_ _) | (with_reducible refine Kd.C_drew ?_))); (case side2 => exact HC0_0.out); rintro e w9 ⟨rfl, hb⟩; refine ⟨_, rfl, ?_⟩; have n0_ := Aside0.mk (blk_below (g := gb311) (o := .cells #[.slice A0_0 l0_0.length c0_0] 28 (0, 0)) (by (with_reducible repeat (first | refine blk_drewN ?_ _ | refine blk_drew ?_ | refine blk_alloc ?_ _)); exact BK311.out) hb); have n1_ := Aside0.mk (below_step (by repeat (first | (with_reducible first | exact HB.out | apply below_alloc | apply pw_below_drewN | apply below_drew1 | refine below_set ?_ GE311.out) | exact HB.out)) hb); clear BK311; clear HB; have BK311 := n0_; have HB := n1_; clear n0_ n1_; (try clear hb); (try clear hb2); (try clear hk); (try clear hi)))
  have n0_ := Aside0.mk (blk_drew BK311.out)
  have n1_ := Aside0.mk (below_drew1 HB.out)
  clear BK311
  clear HB
  have BK311 := n0_
  have HB := n1_
  clear n0_ n1_
  refine start_ (n := 7) (S := fun w' => w'.cell? ⟨gb311, 0, none⟩ = some (.slice A0_0 l0_0.length c0_0)) (ds := []) #[false, false, false, false, false, false, false] (by kernel_rfl) rfl rfl ((blk_cell BK311.out 0).trans rfl) (fun hHeld => ?_)
  generalize w9.drew = w10 at BK311 HB hHeld ⊢
  refine pure_ (i := 1) (N := some 11) (v := ?_) (a' := ?_) #[false, true, false, false, false, false, false] rfl rfl (by kernel_rfl) (fun _ _ _ h => h) (Or.inl ⟨by rfl, ?_⟩) ?_ ?_
  rotate_left
  ·
   intro w'
   go_simp
   with_reducible rfl
  rotate_left
  ·
   simp only [Act.put, List.setIfInBounds_toArray, List.set_cons_zero, List.set_cons_succ, i64_w, i32_w]
   rfl
  refine take_ (i := 0) (N := some 10) (v := ?_) (a' := ?_) #[true, true, false, false, false, false, false] rfl rfl (by kernel_rfl) (fun _ _ _ h => h) (Or.inl ⟨by rfl, ?_⟩) hHeld ?_ ?_
  rotate_left
  ·
   intro w' s0
   go_simp
   with_reducible rfl
  rotate_left
  ·
   simp only [Act.put, List.setIfInBounds_toArray, List.set_cons_zero, List.set_cons_succ, i64_w, i32_w]
   rfl
  refine take_ (i := 2) (N := some 12) (v := ?_) (a' := ?_) #[true, true, true, false, false, false, false] rfl rfl (by kernel_rfl) (fun _ _ _ h => h) (Or.inl ⟨by rfl, ?_⟩) hHeld ?_ ?_
  rotate_left
  ·
   intro w' s0
   go_simp
   with_reducible rfl
  rotate_left
  ·
   simp only [Act.put, List.setIfInBounds_toArray, List.set_cons_zero, List.set_cons_succ, i64_w, i32_w]
   rfl
  refine one_ (i := 3) (N := some 13) #[true, true, true, true, false, false, false] rfl rfl (by kernel_rfl) (by decide) (fun K hK => ?_)
  refine goes_ Try.func52 (by kernel_rfl) rfl #[.agg #[.slice A0_0 l0_0.length c0_0]] (by rfl) rfl rfl (by (try simp only [List.map_toArray, List.map_cons, List.map_nil]); first | done | rfl | (simp only [List.length_drop, List.length_take]; rfl)) ?_
  with_reducible refine (impl_Poset_gyration.calls k _ _ l0_0 t313 _ ?side1 ?side2 A5.out).mono ?_
  (case side1 => repeat (first | exact (Kd.C_below HR0_0.out HB.out) | (with_reducible refine Kd.C_alloc ?_ _) | (with_reducible refine Kd.C_drewN ?_ _) | (with_reducible refine Kd.C_drew ?_)))
  (case side2 => exact HC0_0.out)
  rintro e w11 ⟨v314, rfl, ho0, hb⟩
  refine ⟨_, rfl, ?_⟩
  have n0_ := Aside0.mk (Kd.R_lower ho0 (below_size (by repeat (first | (with_reducible first | exact HB.out | apply below_alloc | apply pw_below_drewN | apply below_drew1 | refine below_set ?_ GE311.out) | exact HB.out))))
  have n1_ := Aside0.mk (blk_below (g := gb311) (o := .cells #[.slice A0_0 l0_0.length c0_0] 28 (0, 0)) (by (with_reducible repeat (first | refine blk_drewN ?_ _ | refine blk_drew ?_ | refine blk_alloc ?_ _)); exact BK311.out) hb)
  have n2_ := Aside0.mk (below_step (by repeat (first | (with_reducible first | exact HB.out | apply below_alloc | apply pw_below_drewN | apply below_drew1 | refine below_set ?_ GE311.out) | exact HB.out)) hb)
  clear BK311
  clear HB
  have HO315 := n0_
  have BK311 := n1_
  have HB := n2_
  clear n0_ n1_ n2_
  (try clear hb)
  (try clear hb2)
  (try clear hk)
  (try clear hi)
  (try clear ho0)
  obtain ⟨Ao12, co12, eo12⟩ := Kd.R_slice HO315.out
  (first | subst eo12 | (injection eo12 with f1_ f2_ f3_; have f4_ := f1_.symm; have f5_ := f3_.symm; clear f1_ f2_ f3_; subst f4_; subst f5_))
  refine hK.out _ _ ((blk_cell BK311.out 0).trans rfl) (fun hHeld => ?_)
  clear hK K
  refine norm_ (a' := ?_) ?_ ?_
  rotate_left
  ·
   show Act.put _ (some 13) _ = _
   simp only [Act.put, List.setIfInBounds_toArray, List.set_cons_zero, List.set_cons_succ, i64_w, i32_w]
   rfl
  refine one_ (i := 4) (N := some 14) #[true, true, true, true, true, false, false] rfl rfl (by kernel_rfl) (by decide) (fun K hK => ?_)
  refine goes_ Try.func51 (by kernel_rfl) rfl #[.agg #[.slice A0_0 l0_0.length c0_0], .int .i64 a1, .slice Ao12 t313.length co12] (by rfl) rfl rfl (by (try simp only [List.map_toArray, List.map_cons, List.map_nil]); first | done | rfl | (simp only [List.length_drop, List.length_take]; rfl)) ?_
  with_reducible refine (impl_Poset_toggleRanks.calls k _ _ l0_0 a1 _ _ t313 t316 _ ?side1 ?side2 ?side3 ?side4 A6.out).mono ?_
  (case side1 => repeat (first | exact (Kd.C_below HR0_0.out HB.out) | (with_reducible refine Kd.C_alloc ?_ _) | (with_reducible refine Kd.C_drewN ?_ _) | (with_reducible refine Kd.C_drew ?_)))
  (case side2 => exact HC0_0.out)
  (case side3 => repeat (first | exact (Kd.R_reads' HO315.out).2.2 | (with_reducible refine Kd.C_alloc ?_ _) | (with_reducible refine Kd.C_drewN ?_ _) | (with_reducible refine Kd.C_drew ?_)))
  (case side4 => exact (Kd.R_reads' HO315.out).2.1)
  rintro e w13 ⟨rfl, hb⟩
  refine ⟨_, rfl, ?_⟩
  have n0_ := Aside0.mk (Kd.R_below (by (with_reducible repeat (first | apply Kd.R_alloc | apply Kd.R_drewN | apply Kd.R_drew)); exact HO315.out) hb)
  have n1_ := Aside0.mk (blk_below (g := gb311) (o := .cells #[.slice A0_0 l0_0.length c0_0] 28 (0, 0)) (by (with_reducible repeat (first | refine blk_drewN ?_ _ | refine blk_drew ?_ | refine blk_alloc ?_ _)); exact BK311.out) hb)
  have n2_ := Aside0.mk (below_step (by repeat (first | (with_reducible first | exact HB.out | apply below_alloc | apply pw_below_drewN | apply below_drew1 | refine below_set ?_ GE311.out) | exact HB.out)) hb)
  clear HO315
  clear BK311
  clear HB
  have HO315 := n0_
  have BK311 := n1_
  have HB := n2_
  clear n0_ n1_ n2_
  (try clear hb)
  (try clear hb2)
  (try clear hk)
  (try clear hi)
  refine hK.out _ _ ((blk_cell BK311.out 0).trans rfl) (fun hHeld => ?_)
  clear hK K
  refine norm_ (a' := ?_) ?_ ?_
  rotate_left
  ·
   show Act.put _ (some 14) _ = _
   simp only [Act.put, List.setIfInBounds_toArray, List.set_cons_zero, List.set_cons_succ, i64_w, i32_w]
   rfl
  refine pure_ (i := 5) (N := some 4) (v := ?_) (a' := ?_) #[true, true, true, true, true, true, false] rfl rfl (by kernel_rfl) (fun _ _ _ h => h) (Or.inl ⟨by rfl, ?_⟩) ?_ ?_
  rotate_left
  ·
   intro w'
   go_simp
   with_reducible rfl
  rotate_left
  ·
   simp only [Act.put, List.setIfInBounds_toArray, List.set_cons_zero, List.set_cons_succ, i64_w, i32_w]
   rfl
  refine pure_ (i := 6) (N := some 5) (v := ?_) (a' := ?_) #[true, true, true, true, true, true, true] rfl rfl (by kernel_rfl) (fun _ _ _ h => h) (Or.inl ⟨by rfl, ?_⟩) ?_ ?_
  rotate_left
  ·
   intro w'
   go_simp
   with_reducible rfl
  rotate_left
  ·
   simp only [Act.put, List.setIfInBounds_toArray, List.set_cons_zero, List.set_cons_succ, i64_w, i32_w]
   rfl
  refine done_ (by kernel_rfl) ?_
  try go_wp2
  go_ret2
  exact ⟨by first | rfl | (simp [errW_none, errW_some] <;> rfl) | (simp [*, errW_none, errW_some] <;> rfl), by repeat (first | (with_reducible first | exact HB.out | apply below_alloc | apply pw_below_drewN | apply below_drew1 | refine below_set ?_ GE311.out) | exact HB.out)⟩
 ·
  replace c4 := Bool.eq_false_iff.mpr c4
  subst c4
  have H1 : (some (0, false)) = some (r1, r2) := by rw [if_neg (show ¬ (false = true) by decide)] at H; exact H
  clear H
  have H := H1
  clear H1
  simp only [Option.some.injEq, Prod.mk.injEq] at H
  obtain ⟨rfl, rfl⟩ := H
  go_enter Try.func17, Try.ntmps17
  go_wp2_with (first | ((with_reducible refine gate_dst (N := 2) rfl ?_); refine box_event ?hg (N := 2) ?hd (cs := #[.slice A0_0 l0_0.length c0_0]) (t := 28) ?hr ?_; (case hd => rfl); (case hg => rfl); (case hr => first | (go_simp; done) | (go_simp; rfl)); intro gb311 hg w14 hbox hb; have n0_ := Aside0.mk (below_step (by repeat (first | (with_reducible first | exact HB.out | apply below_alloc | apply pw_below_drewN | apply below_drew1) | exact HB.out)) hb); have n1_ := Aside0.mk (hbox); have n2_ := Aside0.mk ((by rw [hg]; exact (below_size (by repeat (first | (with_reducible first | exact HB.out | apply below_alloc | apply pw_below_drewN | apply below_drew1) | exact HB.out))) : w.heap.size ≤ gb311)); have n3_ := Aside0.mk ((by rw [hg]; exact (below_size (by repeat (first | (with_reducible first | exact HB.out | apply below_alloc | apply pw_below_drewN | apply below_drew1) | exact HB.out))) : w.heap.size ≤ gb311)); clear HB; have HB := n0_; have BK311 := n1_; have GW311 := n2_; have GE311 := n3_; clear n0_ n1_ n2_ n3_; clear hb hbox hg; have hcz15_0 : w14.cell? ⟨gb311, 0, none⟩ = some (.slice A0_0 l0_0.length c0_0) := (blk_cell BK311.out 0).trans rfl; have hfz15_0 := blk_frozen BK311.out 0) | ((with_reducible refine gate_callee (f := 50) rfl ?_); refine goesL_ (some 8) rfl rfl Try.func50 (by kernel_rfl) rfl #[.agg #[.slice A0_0 l0_0.length c0_0], .int .i64 a1] rfl (by (try simp only [List.map_toArray, List.map_cons, List.map_nil]); first | done | rfl | (simp only [List.length_drop, List.length_take]; rfl)) ?_; (with_reducible refine (impl_isRankedIdeal.calls k _ _ l0_0 a1 false _ ?side1 ?side2 A3.out).mono ?_); (case side1 => repeat (first | exact (Kd.C_below HR0_0.out HB.out) | (with_reducible refine Kd.C_alloc ?_ _) | (with_reducible refine Kd.C_drewN ?_ _) | (with_reducible refine Kd.C_drew ?_))); (case side2 => exact HC0_0.out); rintro e w16 ⟨rfl, hb⟩; refine ⟨_, rfl, ?_⟩; have n0_ := Aside0.mk (blk_below (g := gb311) (o := .cells #[.slice A0_0 l0_0.length c0_0] 28 (0, 0)) (by (with_reducible repeat (first | refine blk_drewN ?_ _ | refine blk_drew ?_ | refine blk_alloc ?_ _)); exact BK311.out) hb); have n1_ := Aside0.mk (below_step (by repeat (first | (with_reducible first | exact HB.out | apply below_alloc | apply pw_below_drewN | apply below_drew1 | refine below_set ?_ GE311.out) | exact HB.out)) hb); clear BK311; clear HB; have BK311 := n0_; have HB := n1_; clear n0_ n1_; (try clear hb); (try clear hb2); (try clear hk); (try clear hi)))
  go_ret2
  exact ⟨by first | rfl | (simp [errW_none, errW_some] <;> rfl) | (simp [*, errW_none, errW_some] <;> rfl), by repeat (first | (with_reducible first | exact HB.out | apply below_alloc | apply pw_below_drewN | apply below_drew1 | refine below_set ?_ GE311.out) | exact HB.out)⟩
end Go.Proofs.Ytpdgiinedbdamaa.L
end
section
namespace Go.Proofs.Ytpdgiinedbdamaa.L
open Go.RowKit Go.Proofs.YtpdgiinedbdamaaW.PrintWords Go.Proofs.YtpdgiinedbdamaaW.PrintLast Go.Proofs.YtpdgiinedbdamaaW.PrintMore
attribute [local go_sem] max2_int min2_int max_two min_two max_three min_three max_four min_four
set_option linter.unusedVariables false
set_option linter.unusedSimpArgs false
def impl_backwards.f (k : Nat) (l0 : List Int) : Option (List Int) := (slices_Clone_int_int.f l0).bind fun t422 => ((slices_Reverse_int_int.f k t422).bind fun t425 => (some t425))
theorem impl_backwards.mono : ∀ a0 k, LeO (impl_backwards.f k a0) (impl_backwards.f (k + 1) a0) := by
 intro a0 k
 unfold impl_backwards.f
 repeat' first
   | (with_reducible exact slices_Reverse_int_int.mono _ _)
   | (with_reducible exact LeO.refl _)
   | (with_reducible exact LeO.none _)
   | (with_reducible refine LeO.ite ?_ ?_)
   | (with_reducible refine LeO.bind ?_ (fun _ => ?_))
   | exact slices_Reverse_int_int.mono _ _
   | exact LeO.none _
   | refine LeO.ite ?_ ?_
   | refine LeO.bind ?_ (fun _ => ?_)
set_option maxHeartbeats 8000000 in
set_option maxRecDepth 100000 in
theorem impl_backwards.calls (k : Nat) (A0 : Option Addr) (c0 : Nat) (l0 : List Int) (r : List Int) (w : World) (hr0 : Kd.C (Kd.int .i64) w A0 l0.length l0) (hc0 : l0.length ≤ c0) (h : impl_backwards.f k l0 = some r) :
  Calls Try.prog 58 #[.slice A0 l0.length c0] w fun e w' => ∃ v0_ : Value, e = .returned (v0_) ∧ Kd.R (Kd.int .i64) 3 w' w.heap.size (fun _ => True) v0_ r ∧ Below w.heap.size w w' := by
 have HR0 := Aside0.mk hr0
 have HC0 := Aside0.mk hc0
 clear hr0 hc0
 have HB := Aside0.mk (Below.refl w.heap.size w)
 have H : ((slices_Clone_int_int.f l0).bind fun t422 => ((slices_Reverse_int_int.f k t422).bind fun t425 => (some t425))) = some r := h
 clear h
 replace H := Option.bind_eq_some_iff.mp H
 obtain ⟨t422, A20, H⟩ := H
 replace H : ((slices_Reverse_int_int.f k t422).bind fun t425 => (some t425)) = some r := H
 have A2 := Aside0.mk A20
 clear A20
 replace H := Option.bind_eq_some_iff.mp H
 obtain ⟨t425, A30, H⟩ := H
 replace H : (some t425) = some r := H
 have A3 := Aside0.mk A30
 clear A30
 obtain rfl := Option.some.inj H
 go_enter Try.func58, Try.ntmps58
 go_wp2_with (first | ((with_reducible refine gate_callee (f := 61) rfl ?_); refine goesL_ (some 5) rfl rfl Try.func61 (by kernel_rfl) rfl #[.slice A0 l0.length c0] rfl (by (try simp only [List.map_toArray, List.map_cons, List.map_nil]); first | done | rfl | (simp only [List.length_drop, List.length_take]; rfl)) ?_; (with_reducible refine (slices_Clone_int_int.calls _ _ l0 t422 _ ?side1 ?side2 A2.out).mono ?_); (case side1 => repeat (first | exact HR0.out | (with_reducible refine Kd.C_alloc ?_ _) | (with_reducible refine Kd.C_drewN ?_ _) | (with_reducible refine Kd.C_drew ?_))); (case side2 => exact HC0.out); rintro e w4 ⟨v423, rfl, ho0, hb⟩; refine ⟨_, rfl, ?_⟩; have n0_ := Aside0.mk (Kd.R_lower ho0 (below_size (by repeat (first | (with_reducible first | exact HB.out | apply below_alloc | apply pw_below_drewN | apply below_drew1) | exact HB.out)))); have n1_ := Aside0.mk (below_step (by repeat (first | (with_reducible first | exact HB.out | apply below_alloc | apply pw_below_drewN | apply below_drew1) | exact HB.out)) hb); clear HB; have HO424 := n0_; have HB := n1_; clear n0_ n1_; (try clear hb); (try clear hb2); (try clear hk); (try clear hi); (try clear ho0); obtain ⟨Ao5, co5, eo5⟩ := Kd.R_slice HO424.out; subst eo5) | ((with_reducible refine gate_callee (f := 112) rfl ?_); refine goesL_ (some 7) rfl rfl Try.func112 (by kernel_rfl) rfl #[.slice Ao5 t422.length co5] rfl (by (try simp only [List.map_toArray, List.map_cons, List.map_nil]); first | done | rfl | (simp only [List.length_drop, List.length_take]; rfl)) ?_; (with_reducible refine (slices_Reverse_int_int.calls k (fun k_ => some k_ = (.slice Ao5 t422.length co5 : Value).ownBlock) (.slice Ao5 t422.length co5) t422 t425 w _ ?side1 ?side2 A3.out).mono ?_); (case side1 => repeat (first | (with_reducible first | exact HB.out | apply below_alloc | apply pw_below_drewN | apply below_drew1) | exact HB.out)); (case side2 => exact Kd.R_tight rfl HO424.out); rintro e w6 ⟨rfl, hy0, hb, hkp⟩; refine ⟨_, rfl, ?_⟩; have n0_ := Aside0.mk (Kd.R_reok rfl hy0 (fun k_ e_ => HO424.out.1 k_ e_)); have n1_ := Aside0.mk (hb); clear HO424; clear HB; have HO424 := n0_; have HB := n1_; clear n0_ n1_; (try clear hb); (try clear hkp); (try clear hy0)))
 go_ret
 exact ⟨_, by first | rfl | (simp [errW_none, errW_some] <;> rfl) | (simp [*, errW_none, errW_some] <;> rfl), by (with_reducible repeat (first | apply Kd.R_alloc | apply Kd.R_drewN | apply Kd.R_drew)); exact HO424.out, by repeat (first | (with_reducible first | exact HB.out | apply below_alloc | apply pw_below_drewN | apply below_drew1) | exact HB.out)⟩
end Go.Proofs.Ytpdgiinedbdamaa.L
end
section
namespace Go.Proofs.Ytpdgiinedbdamaa.L
open Go.RowKit Go.Proofs.YtpdgiinedbdamaaW.PrintWords Go.Proofs.YtpdgiinedbdamaaW.PrintLast Go.Proofs.YtpdgiinedbdamaaW.PrintMore
attribute [local go_sem] max2_int min2_int max_two min_two max_three min_three max_four min_four
set_option linter.unusedVariables false
set_option linter.unusedSimpArgs false
def spec_GyrateBack.f (k : Nat) (l0_0 : List Int) (a1 : Int) : Option (Int × Bool) := (spec_rvIn.f k l0_0 a1).bind fun t613 => (if t613 = true then ((spec_rvGyrate.f k l0_0 a1 true).bind fun t614 => (some (t614, true))) else (some (0, false)))
theorem spec_GyrateBack.mono : ∀ a0 a1 k, LeO (spec_GyrateBack.f k a0 a1) (spec_GyrateBack.f (k + 1) a0 a1) := by
 intro a0 a1 k
 unfold spec_GyrateBack.f
 repeat' first
   | (with_reducible exact spec_rvGyrate.mono _ _ _ _)
   | (with_reducible exact spec_rvIn.mono _ _ _)
   | (with_reducible exact LeO.refl _)
   | (with_reducible exact LeO.none _)
   | (with_reducible refine LeO.ite ?_ ?_)
   | (with_reducible refine LeO.bind ?_ (fun _ => ?_))
   | exact spec_rvGyrate.mono _ _ _ _
   | exact spec_rvIn.mono _ _ _
   | exact LeO.none _
   | refine LeO.ite ?_ ?_
   | refine LeO.bind ?_ (fun _ => ?_)
set_option maxHeartbeats 8000000 in
set_option maxRecDepth 100000 in
theorem spec_GyrateBack.calls (k : Nat) (A0_0 : Option Addr) (c0_0 : Nat) (l0_0 : List Int) (a1 : Int) (r1 : Int) (r2 : Bool) (w : World) (hr0_0 : Kd.C (Kd.int .i64) w A0_0 l0_0.length l0_0) (hc0_0 : l0_0.length ≤ c0_0) (h : spec_GyrateBack.f k l0_0 a1 = some (r1, r2)) :
  Calls Try.prog 32 #[.agg #[.slice A0_0 l0_0.length c0_0], .int .i64 a1] w fun e w' => e = .returned (.tuple #[.int .i64 r1, .bool r2]) ∧ Below w.heap.size w w' := by
 have hu28 := Try.underlying28
 have HR0_0 := Aside0.mk hr0_0
 have HC0_0 := Aside0.mk hc0_0
 clear hr0_0 hc0_0
 have HB := Aside0.mk (Below.refl w.heap.size w)
 have H : ((spec_rvIn.f k l0_0 a1).bind fun t613 => (if t613 = true then ((spec_rvGyrate.f k l0_0 a1 true).bind fun t614 => (some (t614, true))) else (some (0, false)))) = some (r1, r2) := h
 clear h
 replace H := Option.bind_eq_some_iff.mp H
 obtain ⟨t613, A30, H⟩ := H
 replace H : (if t613 = true then ((spec_rvGyrate.f k l0_0 a1 true).bind fun t614 => (some (t614, true))) else (some (0, false))) = some (r1, r2) := H
 have A3 := Aside0.mk A30
 clear A30
 by_cases c4 : t613 = true
 ·
  subst c4
  have H1 : ((spec_rvGyrate.f k l0_0 a1 true).bind fun t614 => (some (t614, true))) = some (r1, r2) := by rw [if_pos rfl] at H; exact H
  clear H
  have H := H1
  clear H1
  replace H := Option.bind_eq_some_iff.mp H
  obtain ⟨t614, A50, H⟩ := H
  replace H : (some (t614, true)) = some (r1, r2) := H
  have A5 := Aside0.mk A50
  clear A50
  simp only [Option.some.injEq, Prod.mk.injEq] at H
  obtain ⟨rfl, rfl⟩ := H
  go_enter Try.func32, Try.ntmps32
  go_wp2_with (first | ((with_reducible refine gate_dst (N := 2) rfl ?_); refine box_event ?hg (N := 2) ?hd (cs := #[.slice A0_0 l0_0.length c0_0]) (t := 28) ?hr ?_; (case hd => rfl); (case hg => rfl); (case hr => first | (go_simp; done) | (go_simp; rfl)); intro gb612 hg w6 hbox hb; have n0_ := Aside0.mk (below_step (by repeat (first | (with_reducible first | exact HB.out | apply below_alloc | apply pw_below_drewN | apply below_drew1) | exact HB.out)) hb); have n1_ := Aside0.mk (hbox); have n2_ := Aside0.mk ((by rw [hg]; exact (below_size (by repeat (first | (with_reducible first | exact HB.out | apply below_alloc | apply pw_below_drewN | apply below_drew1) | exact HB.out))) : w.heap.size ≤ gb612)); have n3_ := Aside0.mk ((by rw [hg]; exact (below_size (by repeat (first | (with_reducible first | exact HB.out | apply below_alloc | apply pw_below_drewN | apply below_drew1) | exact HB.out))) : w.heap.size ≤ gb612)); clear HB; have HB := n0_; have BK612 := n1_; have GW612 := n2_; have GE612 := n3_; clear n0_ n1_ n2_ n3_; clear hb hbox hg; have hcz7_0 : w6.cell? ⟨gb612, 0, none⟩ = some (.slice A0_0 l0_0.length c0_0) := (blk_cell BK612.out 0).trans rfl; have hfz7_0 := blk_frozen BK612.out 0) | ((with_reducible refine gate_callee (f := 48) rfl ?_); refine goesL_ (some 8) rfl rfl Try.func48 (by kernel_rfl) rfl #[.agg #[.slice A0_0 l0_0.length c0_0], .int .i64 a1] rfl (by (try simp only [List.map_toArray, List.map_cons, List.map_nil]); first | done | rfl | (simp only [List.length_drop, List.length_take]; rfl)) ?_; (with_reducible refine (spec_rvIn.calls k _ _ l0_0 a1 true _ ?side1 ?side2 A3.out).mono ?_); (case side1 => repeat (first | exact (Kd.C_below HR0_0.out HB.out) | (with_reducible refine Kd.C_alloc ?_ _) | (with_reducible refine Kd.C_drewN ?_ _) | (with_reducible refine Kd.C_drew ?_))); (case side2 => exact HC0_0.out); rintro e w8 ⟨rfl, hb⟩; refine ⟨_, rfl, ?_⟩; have n0_ := Aside0.mk (blk_below (g := gb612) (o := .cells #[.slice A0_0 l0_0.length c0_0] 28 (0, 0)) (by (with_reducible repeat (first | refine blk_drewN ?_ _ | refine blk_drew ?_ | refine blk_alloc ?_ _)); exact BK612.out) hb); have n1_ := Aside0.mk (below_step (by repeat (first | (with_reducible first | exact HB.out | apply below_alloc | apply pw_below_drewN | apply below_drew1 | refine below_set ?_ GE612.out) | exact HB.out)) hb); clear BK612; clear HB; have BK612 := n0_; have HB := n1_; clear n0_ n1_; (try clear hb); (try clear hb2); (try clear hk); (try clear hi); have hcz9_0 : w8.cell? ⟨gb612, 0, none⟩ = some (.slice A0_0 l0_0.length c0_0) := (blk_cell BK612.out 0).trans rfl; have hfz9_0 := blk_frozen BK612.out 0) | ((with_reducible refine gate_callee (f := 49) rfl ?_); refine goesL_ (some 12) rfl rfl Try.func49 (by kernel_rfl) rfl #[.agg #[.slice A0_0 l0_0.length c0_0], .int .i64 a1, .bool true] rfl (by (try simp only [List.map_toArray, List.map_cons, List.map_nil]); first | done | rfl | (simp only [List.length_drop, List.length_take]; rfl)) ?_; (with_reducible refine (spec_rvGyrate.calls k _ _ l0_0 a1 true t614 _ ?side1 ?side2 A5.out).mono ?_); (case side1 => repeat (first | exact (Kd.C_below HR0_0.out HB.out) | (with_reducible refine Kd.C_alloc ?_ _) | (with_reducible refine Kd.C_drewN ?_ _) | (with_reducible refine Kd.C_drew ?_))); (case side2 => exact HC0_0.out); rintro e w10 ⟨rfl, hb⟩; refine ⟨_, rfl, ?_⟩; have n0_ := Aside0.mk (blk_below (g := gb612) (o := .cells #[.slice A0_0 l0_0.length c0_0] 28 (0, 0)) (by (with_reducible repeat (first | refine blk_drewN ?_ _ | refine blk_drew ?_ | refine blk_alloc ?_ _)); exact BK612.out) hb); have n1_ := Aside0.mk (below_step (by repeat (first | (with_reducible first | exact HB.out | apply below_alloc | apply pw_below_drewN | apply below_drew1 | refine below_set ?_ GE612.out) | exact HB.out)) hb); clear BK612; clear HB; have BK612 := n0_; have HB := n1_; clear n0_ n1_; (try clear hb); (try clear hb2); (try clear hk); (try clear hi)))
  go_ret2
  exact ⟨by first | rfl | (simp [errW_none, errW_some] <;> rfl) | (simp [*, errW_none, errW_some] <;> rfl), by repeat (first | (with_reducible first | exact HB.out | apply below_alloc | apply pw_below_drewN | apply below_drew1 | refine below_set ?_ GE612.out) | exact HB.out)⟩
 ·
  replace c4 := Bool.eq_false_iff.mpr c4
  subst c4
  have H1 : (some (0, false)) = some (r1, r2) := by rw [if_neg (show ¬ (false = true) by decide)] at H; exact H
  clear H
  have H := H1
  clear H1
  simp only [Option.some.injEq, Prod.mk.injEq] at H
  obtain ⟨rfl, rfl⟩ := H
  go_enter Try.func32, Try.ntmps32
  go_wp2_with (first | ((with_reducible refine gate_dst (N := 2) rfl ?_); refine box_event ?hg (N := 2) ?hd (cs := #[.slice A0_0 l0_0.length c0_0]) (t := 28) ?hr ?_; (case hd => rfl); (case hg => rfl); (case hr => first | (go_simp; done) | (go_simp; rfl)); intro gb612 hg w11 hbox hb; have n0_ := Aside0.mk (below_step (by repeat (first | (with_reducible first | exact HB.out | apply below_alloc | apply pw_below_drewN | apply below_drew1) | exact HB.out)) hb); have n1_ := Aside0.mk (hbox); have n2_ := Aside0.mk ((by rw [hg]; exact (below_size (by repeat (first | (with_reducible first | exact HB.out | apply below_alloc | apply pw_below_drewN | apply below_drew1) | exact HB.out))) : w.heap.size ≤ gb612)); have n3_ := Aside0.mk ((by rw [hg]; exact (below_size (by repeat (first | (with_reducible first | exact HB.out | apply below_alloc | apply pw_below_drewN | apply below_drew1) | exact HB.out))) : w.heap.size ≤ gb612)); clear HB; have HB := n0_; have BK612 := n1_; have GW612 := n2_; have GE612 := n3_; clear n0_ n1_ n2_ n3_; clear hb hbox hg; have hcz12_0 : w11.cell? ⟨gb612, 0, none⟩ = some (.slice A0_0 l0_0.length c0_0) := (blk_cell BK612.out 0).trans rfl; have hfz12_0 := blk_frozen BK612.out 0) | ((with_reducible refine gate_callee (f := 48) rfl ?_); refine goesL_ (some 8) rfl rfl Try.func48 (by kernel_rfl) rfl #[.agg #[.slice A0_0 l0_0.length c0_0], .int .i64 a1] rfl (by (try simp only [List.map_toArray, List.map_cons, List.map_nil]); first | done | rfl | (simp only [List.length_drop, List.length_take]; rfl)) ?_; (with_reducible refine (spec_rvIn.calls k _ _ l0_0 a1 false _ ?side1 ?side2 A3.out).mono ?_); (case side1 => repeat (first | exact (Kd.C_below HR0_0.out HB.out) | (with_reducible refine Kd.C_alloc ?_ _) | (with_reducible refine Kd.C_drewN ?_ _) | (with_reducible refine Kd.C_drew ?_))); (case side2 => exact HC0_0.out); rintro e w13 ⟨rfl, hb⟩; refine ⟨_, rfl, ?_⟩; have n0_ := Aside0.mk (blk_below (g := gb612) (o := .cells #[.slice A0_0 l0_0.length c0_0] 28 (0, 0)) (by (with_reducible repeat (first | refine blk_drewN ?_ _ | refine blk_drew ?_ | refine blk_alloc ?_ _)); exact BK612.out) hb); have n1_ := Aside0.mk (below_step (by repeat (first | (with_reducible first | exact HB.out | apply below_alloc | apply pw_below_drewN | apply below_drew1 | refine below_set ?_ GE612.out) | exact HB.out)) hb); clear BK612; clear HB; have BK612 := n0_; have HB := n1_; clear n0_ n1_; (try clear hb); (try clear hb2); (try clear hk); (try clear hi)))
  go_ret2
  exact ⟨by first | rfl | (simp [errW_none, errW_some] <;> rfl) | (simp [*, errW_none, errW_some] <;> rfl), by repeat (first | (with_reducible first | exact HB.out | apply below_alloc | apply pw_below_drewN | apply below_drew1 | refine below_set ?_ GE612.out) | exact HB.out)⟩
end Go.Proofs.Ytpdgiinedbdamaa.L
end
section
namespace Go.Proofs.Ytpdgiinedbdamaa.L
open Go.RowKit Go.Proofs.YtpdgiinedbdamaaW.PrintWords Go.Proofs.YtpdgiinedbdamaaW.PrintLast Go.Proofs.YtpdgiinedbdamaaW.PrintMore
attribute [local go_sem] max2_int min2_int max_two min_two max_three min_three max_four min_four
set_option linter.unusedVariables false
set_option linter.unusedSimpArgs false
def impl_GyrateBack.f (k : Nat) (l0_0 : List Int) (a1 : Int) : Option (Int × Bool) := (impl_isRankedIdeal.f k l0_0 a1).bind fun t616 => (if t616 = true then ((impl_Poset_gyration.f k l0_0).bind fun t617 => ((impl_backwards.f k t617).bind fun t620 => ((impl_Poset_toggleRanks.f k l0_0 a1 t620).bind fun t623 => (some (t623, true))))) else (some (0, false)))
theorem impl_GyrateBack.mono : ∀ a0 a1 k, LeO (impl_GyrateBack.f k a0 a1) (impl_GyrateBack.f (k + 1) a0 a1) := by
 intro a0 a1 k
 unfold impl_GyrateBack.f
 repeat' first
   | (with_reducible exact impl_Poset_gyration.mono _ _)
   | (with_reducible exact impl_Poset_toggleRanks.mono _ _ _ _)
   | (with_reducible exact impl_backwards.mono _ _)
   | (with_reducible exact impl_isRankedIdeal.mono _ _ _)
   | (with_reducible exact LeO.refl _)
   | (with_reducible exact LeO.none _)
   | (with_reducible refine LeO.ite ?_ ?_)
   | (with_reducible refine LeO.bind ?_ (fun _ => ?_))
   | exact impl_Poset_gyration.mono _ _
   | exact impl_Poset_toggleRanks.mono _ _ _ _
   | exact impl_backwards.mono _ _
   | exact impl_isRankedIdeal.mono _ _ _
   | exact LeO.none _
   | refine LeO.ite ?_ ?_
   | refine LeO.bind ?_ (fun _ => ?_)
def impl_GyrateBack.T3 : Bool × List (List Nat × List Nat) := (true, [([], []), ([], []), ([], []), ([2], [2]), ([3, 3], [3]), ([0, 1, 4, 4], [0, 1, 4]), ([5, 5, 0, 1, 2, 3, 4, 5], [5]), ([6, 0, 1, 2, 3, 4, 5, 6], [])])
def impl_GyrateBack.B3 : List Nat := [0, 0, 0, 4, 12, 31, 63, 127]
theorem impl_GyrateBack.tab3 : rtab .any (opsOf Try.f33 3) = impl_GyrateBack.T3 := by kernel_rfl
theorem impl_GyrateBack.bits3 : waitsOk impl_GyrateBack.T3.2 impl_GyrateBack.B3 = true := by kernel_rfl
set_option maxHeartbeats 8000000 in
set_option maxRecDepth 100000 in
theorem impl_GyrateBack.calls (k : Nat) (A0_0 : Option Addr) (c0_0 : Nat) (l0_0 : List Int) (a1 : Int) (r1 : Int) (r2 : Bool) (w : World) (hr0_0 : Kd.C (Kd.int .i64) w A0_0 l0_0.length l0_0) (hc0_0 : l0_0.length ≤ c0_0) (h : impl_GyrateBack.f k l0_0 a1 = some (r1, r2)) :
  Calls Try.prog 33 #[.agg #[.slice A0_0 l0_0.length c0_0], .int .i64 a1] w fun e w' => e = .returned (.tuple #[.int .i64 r1, .bool r2]) ∧ Below w.heap.size w w' := by
 have hu28 := Try.underlying28
 have HR0_0 := Aside0.mk hr0_0
 have HC0_0 := Aside0.mk hc0_0
 clear hr0_0 hc0_0
 have HB := Aside0.mk (Below.refl w.heap.size w)
 have H : ((impl_isRankedIdeal.f k l0_0 a1).bind fun t616 => (if t616 = true then ((impl_Poset_gyration.f k l0_0).bind fun t617 => ((impl_backwards.f k t617).bind fun t620 => ((impl_Poset_toggleRanks.f k l0_0 a1 t620).bind fun t623 => (some (t623, true))))) else (some (0, false)))) = some (r1, r2) := h
 clear h
 replace H := Option.bind_eq_some_iff.mp H
 obtain ⟨t616, A30, H⟩ := H
 replace H : (if t616 = true then ((impl_Poset_gyration.f k l0_0).bind fun t617 => ((impl_backwards.f k t617).bind fun t620 => ((impl_Poset_toggleRanks.f k l0_0 a1 t620).bind fun t623 => (some (t623, true))))) else (some (0, false))) = some (r1, r2) := H
 have A3 := Aside0.mk A30
 clear A30
 by_cases c4 : t616 = true
 ·
  subst c4
  have H1 : ((impl_Poset_gyration.f k l0_0).bind fun t617 => ((impl_backwards.f k t617).bind fun t620 => ((impl_Poset_toggleRanks.f k l0_0 a1 t620).bind fun t623 => (some (t623, true))))) = some (r1, r2) := by rw [if_pos rfl] at H; exact H
  clear H
  have H := H1
  clear H1
  replace H := Option.bind_eq_some_iff.mp H
  obtain ⟨t617, A50, H⟩ := H
  replace H : ((impl_backwards.f k t617).bind fun t620 => ((impl_Poset_toggleRanks.f k l0_0 a1 t620).bind fun t623 => (some (t623, true)))) = some (r1, r2) := H
  have A5 := Aside0.mk A50
  clear A50
  replace H := Option.bind_eq_some_iff.mp H
  obtain ⟨t620, A60, H⟩ := H
  replace H : ((impl_Poset_toggleRanks.f k l0_0 a1 t620).bind fun t623 => (some (t623, true))) = some (r1, r2) := H
  have A6 := Aside0.mk A60
  clear A60
  replace H := Option.bind_eq_some_iff.mp H
  obtain ⟨t623, A70, H⟩ := H
  replace H : (some (t623, true)) = some (r1, r2) := H
  have A7 := Aside0.mk A70
  clear A70
  simp only [Option.some.injEq, Prod.mk.injEq] at H
  obtain ⟨rfl, rfl⟩ := H
  go_enter Try.func33, Try.ntmps33
  try go_wp2_with (first | ((with_reducible refine gate_dst (N := 2) rfl ?_); refine box_event ?hg (N := 2) ?hd (cs := #[.slice A0_0 l0_0.length c0_0]) (t := 28) ?hr ?_; (case hd => rfl); (case hg => rfl); (case hr => first | (go_simp; done) | (go_simp; rfl)); intro gb615 hg w8 hbox hb; have n0_ := Aside0.mk (below_step (by repeat (first | (with_reducible first | exact HB.out | apply below_alloc | apply pw_below_drewN | apply below_drew1) | exact HB.out)) hb); have n1_ := Aside0.mk (hbox); have n2_ := Aside0.mk ((by rw [hg]; exact (below_size (by repeat (first | (with_reducible first | exact HB.out | apply below_alloc | apply pw_below_drewN | apply below_drew1) | exact HB.out))) : w.heap.size ≤ gb615)); have n3_ := Aside0.mk ((by rw [hg]; exact (below_size (by repeat (first | (with_reducible first | exact HB.out | apply below_alloc | apply pw_below_drewN | apply below_drew1) | exact HB.out))) : w.heap.size ≤ gb615)); clear HB; have HB := n0_; have BK615 := n1_; have GW615 := n2_; have GE615 := n3_; clear n0_ n1_ n2_ n3_; clear hb hbox hg; have hcz9_0 : w8.cell? ⟨gb615, 0, none⟩ = some (.slice A0_0 l0_0.length c0_0) := (blk_cell BK615.out 0).trans rfl; have hfz9_0 := blk_frozen BK615.out 0) | ((with_reducible refine gate_callee (f := 50) rfl ?_); refine goesL_ (some 8) rfl rfl Try.func50 (by kernel_rfl) rfl #[.agg #[.slice A0_0 l0_0.length c0_0], .int .i64 a1] rfl (by (try simp only [List.map_toArray, List.map_cons, List.map_nil]); first | done | rfl | (simp only [List.length_drop, List.length_take]; rfl)) ?_; (with_reducible refine (impl_isRankedIdeal.calls k _ _ l0_0 a1 true _ ?side1 ?side2 A3.out).mono ?_); (case side1 => repeat (first | exact (Kd.C_below HR0_0.out HB.out) | (with_reducible refine Kd.C_alloc ?_ _) | (with_reducible refine Kd.C_drewN ?_ _) | (with_reducible refine Kd.C_drew ?_))); (case side2 => exact HC0_0.out); rintro e w10 ⟨rfl, hb⟩; refine ⟨_, rfl, ?_⟩; have n0_ := Aside0.mk (blk_below (g := gb615) (o := .cells #[.slice A0_0 l0_0.length c0_0] 28 (0, 0)) (by (with_reducible repeat (first | refine blk_drewN ?_ _ | refine blk_drew ?_ | refine blk_alloc ?_ _)); exact BK615.out) hb); have n1_ := Aside0.mk (below_step (by repeat (first | (with_reducible first | exact HB.out | apply below_alloc | apply pw_below_drewN | apply below_drew1 | refine below_set ?_ GE615.out) | exact HB.out)) hb); clear BK615; clear HB; have BK615 := n0_; have HB := n1_; clear n0_ n1_; (try clear hb); (try clear hb2); (try clear hk); (try clear hi)))
  have n0_ := Aside0.mk (blk_drew BK615.out)
  have n1_ := Aside0.mk (below_drew1 HB.out)
  clear BK615
  clear HB
  have BK615 := n0_
  have HB := n1_
  clear n0_ n1_
  refine start_ (n := 8) (S := fun w' => w'.cell? ⟨gb615, 0, none⟩ = some (.slice A0_0 l0_0.length c0_0)) (ds := []) #[false, false, false, false, false, false, false, false] (by kernel_rfl) rfl rfl ((blk_cell BK615.out 0).trans rfl) (fun hHeld => ?_); refine with_tabW impl_GyrateBack.tab3 impl_GyrateBack.bits3 (fun HT_ HW_ => ?_)
  generalize w10.drew = w11 at BK615 HB hHeld ⊢
  refine pure_ (i := 1) (N := some 11) (v := ?_) (a' := ?_) #[false, true, false, false, false, false, false, false] rfl rfl (any_of HT_.out (by kernel_rfl)) (fun _ _ _ h => h) (Or.inl ⟨by rfl, ?_⟩) ?_ ?_
  rotate_left
  ·
   intro w'
   go_simp
   with_reducible rfl
  rotate_left
  ·
   simp only [Act.put, List.setIfInBounds_toArray, List.set_cons_zero, List.set_cons_succ, i64_w, i32_w]
   rfl
  refine take_ (i := 0) (N := some 10) (v := ?_) (a' := ?_) #[true, true, false, false, false, false, false, false] rfl rfl (take_ofW HT_.out HW_.out (by kernel_rfl)) (fun _ _ _ h => h) (Or.inl ⟨by rfl, ?_⟩) hHeld ?_ ?_
  rotate_left
  ·
   intro w' s0
   go_simp
   with_reducible rfl
  rotate_left
  ·
   simp only [Act.put, List.setIfInBounds_toArray, List.set_cons_zero, List.set_cons_succ, i64_w, i32_w]
   rfl
  refine take_ (i := 2) (N := some 12) (v := ?_) (a' := ?_) #[true, true, true, false, false, false, false, false] rfl rfl (take_ofW HT_.out HW_.out (by kernel_rfl)) (fun _ _ _ h => h) (Or.inl ⟨by rfl, ?_⟩) hHeld ?_ ?_
  rotate_left
  ·
   intro w' s0
   go_simp
   with_reducible rfl
  rotate_left
  ·
   simp only [Act.put, List.setIfInBounds_toArray, List.set_cons_zero, List.set_cons_succ, i64_w, i32_w]
   rfl
  refine one_ (i := 3) (N := some 13) #[true, true, true, true, false, false, false, false] rfl rfl (one_of HT_.out (by kernel_rfl)) (by decide) (fun K hK => ?_)
  refine goes_ Try.func52 (by kernel_rfl) rfl #[.agg #[.slice A0_0 l0_0.length c0_0]] (by rfl) rfl rfl (by (try simp only [List.map_toArray, List.map_cons, List.map_nil]); first | done | rfl | (simp only [List.length_drop, List.length_take]; rfl)) ?_
  with_reducible refine (impl_Poset_gyration.calls k _ _ l0_0 t617 _ ?side1 ?side2 A5.out).mono ?_
  (case side1 => repeat (first | exact (Kd.C_below HR0_0.out HB.out) | (with_reducible refine Kd.C_alloc ?_ _) | (with_reducible refine Kd.C_drewN ?_ _) | (with_reducible refine Kd.C_drew ?_)))
  (case side2 => exact HC0_0.out)
  rintro e w12 ⟨v618, rfl, ho0, hb⟩
  refine ⟨_, rfl, ?_⟩
  have n0_ := Aside0.mk (Kd.R_lower ho0 (below_size (by repeat (first | (with_reducible first | exact HB.out | apply below_alloc | apply pw_below_drewN | apply below_drew1 | refine below_set ?_ GE615.out) | exact HB.out))))
  have n1_ := Aside0.mk (blk_below (g := gb615) (o := .cells #[.slice A0_0 l0_0.length c0_0] 28 (0, 0)) (by (with_reducible repeat (first | refine blk_drewN ?_ _ | refine blk_drew ?_ | refine blk_alloc ?_ _)); exact BK615.out) hb)
  have n2_ := Aside0.mk (below_step (by repeat (first | (with_reducible first | exact HB.out | apply below_alloc | apply pw_below_drewN | apply below_drew1 | refine below_set ?_ GE615.out) | exact HB.out)) hb)
  clear BK615
  clear HB
  have HO619 := n0_
  have BK615 := n1_
  have HB := n2_
  clear n0_ n1_ n2_
  (try clear hb)
  (try clear hb2)
  (try clear hk)
  (try clear hi)
  (try clear ho0)
  obtain ⟨Ao13, co13, eo13⟩ := Kd.R_slice HO619.out
  (first | subst eo13 | (injection eo13 with f1_ f2_ f3_; have f4_ := f1_.symm; have f5_ := f3_.symm; clear f1_ f2_ f3_; subst f4_; subst f5_))
  refine hK.out _ _ ((blk_cell BK615.out 0).trans rfl) (fun hHeld => ?_)
  clear hK K
  refine norm_ (a' := ?_) ?_ ?_
  rotate_left
  ·
   show Act.put _ (some 13) _ = _
   simp only [Act.put, List.setIfInBounds_toArray, List.set_cons_zero, List.set_cons_succ, i64_w, i32_w]
   rfl
  refine one_ (i := 4) (N := some 14) #[true, true, true, true, true, false, false, false] rfl rfl (one_of HT_.out (by kernel_rfl)) (by decide) (fun K hK => ?_)
  refine goes_ Try.func58 (by kernel_rfl) rfl #[.slice Ao13 t617.length co13] (by rfl) rfl rfl (by (try simp only [List.map_toArray, List.map_cons, List.map_nil]); first | done | rfl | (simp only [List.length_drop, List.length_take]; rfl)) ?_
  with_reducible refine (impl_backwards.calls k _ _ t617 t620 _ ?side1 ?side2 A6.out).mono ?_
  (case side1 => repeat (first | exact (Kd.R_reads' HO619.out).2.2 | (with_reducible refine Kd.C_alloc ?_ _) | (with_reducible refine Kd.C_drewN ?_ _) | (with_reducible refine Kd.C_drew ?_)))
  (case side2 => exact (Kd.R_reads' HO619.out).2.1)
  rintro e w14 ⟨v621, rfl, ho0, hb⟩
  refine ⟨_, rfl, ?_⟩
  have n0_ := Aside0.mk (Kd.R_elder' (by (with_reducible repeat (first | apply Kd.R_alloc | apply Kd.R_drewN | apply Kd.R_drew)); exact HO619.out) (Kd.R_base ho0) hb)
  have n1_ := Aside0.mk (Kd.R_lower (Kd.R_new' ho0 (Kd.R_lt (by (with_reducible repeat (first | apply Kd.R_alloc | apply Kd.R_drewN | apply Kd.R_drew)); exact HO619.out))) (below_size (by repeat (first | (with_reducible first | exact HB.out | apply below_alloc | apply pw_below_drewN | apply below_drew1 | refine below_set ?_ GE615.out) | exact HB.out))))
  have n2_ := Aside0.mk (blk_below (g := gb615) (o := .cells #[.slice A0_0 l0_0.length c0_0] 28 (0, 0)) (by (with_reducible repeat (first | refine blk_drewN ?_ _ | refine blk_drew ?_ | refine blk_alloc ?_ _)); exact BK615.out) hb)
  have n3_ := Aside0.mk (below_step (by repeat (first | (with_reducible first | exact HB.out | apply below_alloc | apply pw_below_drewN | apply below_drew1 | refine below_set ?_ GE615.out) | exact HB.out)) hb)
  clear HO619
  clear BK615
  clear HB
  have HO619 := n0_
  have HO622 := n1_
  have BK615 := n2_
  have HB := n3_
  clear n0_ n1_ n2_ n3_
  (try clear hb)
  (try clear hb2)
  (try clear hk)
  (try clear hi)
  (try clear ho0)
  obtain ⟨Ao15, co15, eo15⟩ := Kd.R_slice HO622.out
  (first | subst eo15 | (injection eo15 with f1_ f2_ f3_; have f4_ := f1_.symm; have f5_ := f3_.symm; clear f1_ f2_ f3_; subst f4_; subst f5_))
  refine hK.out _ _ ((blk_cell BK615.out 0).trans rfl) (fun hHeld => ?_)
  clear hK K
  refine norm_ (a' := ?_) ?_ ?_
  rotate_left
  ·
   show Act.put _ (some 14) _ = _
   simp only [Act.put, List.setIfInBounds_toArray, List.set_cons_zero, List.set_cons_succ, i64_w, i32_w]
   rfl
  refine one_ (i := 5) (N := some 15) #[true, true, true, true, true, true, false, false] rfl rfl (one_of HT_.out (by kernel_rfl)) (by decide) (fun K hK => ?_)
  refine goes_ Try.func51 (by kernel_rfl) rfl #[.agg #[.slice A0_0 l0_0.length c0_0], .int .i64 a1, .slice Ao15 t620.length co15] (by rfl) rfl rfl (by (try simp only [List.map_toArray, List.map_cons, List.map_nil]); first | done | rfl | (simp only [List.length_drop, List.length_take]; rfl)) ?_
  with_reducible refine (impl_Poset_toggleRanks.calls k _ _ l0_0 a1 _ _ t620 t623 _ ?side1 ?side2 ?side3 ?side4 A7.out).mono ?_
  (case side1 => repeat (first | exact (Kd.C_below HR0_0.out HB.out) | (with_reducible refine Kd.C_alloc ?_ _) | (with_reducible refine Kd.C_drewN ?_ _) | (with_reducible refine Kd.C_drew ?_)))
  (case side2 => exact HC0_0.out)
  (case side3 => repeat (first | exact (Kd.R_reads' HO622.out).2.2 | (with_reducible refine Kd.C_alloc ?_ _) | (with_reducible refine Kd.C_drewN ?_ _) | (with_reducible refine Kd.C_drew ?_)))
  (case side4 => exact (Kd.R_reads' HO622.out).2.1)
  rintro e w16 ⟨rfl, hb⟩
  refine ⟨_, rfl, ?_⟩
  have n0_ := Aside0.mk (Kd.R_below (by (with_reducible repeat (first | apply Kd.R_alloc | apply Kd.R_drewN | apply Kd.R_drew)); exact HO619.out) hb)
  have n1_ := Aside0.mk (Kd.R_below (by (with_reducible repeat (first | apply Kd.R_alloc | apply Kd.R_drewN | apply Kd.R_drew)); exact HO622.out) hb)
  have n2_ := Aside0.mk (blk_below (g := gb615) (o := .cells #[.slice A0_0 l0_0.length c0_0] 28 (0, 0)) (by (with_reducible repeat (first | refine blk_drewN ?_ _ | refine blk_drew ?_ | refine blk_alloc ?_ _)); exact BK615.out) hb)
  have n3_ := Aside0.mk (below_step (by repeat (first | (with_reducible first | exact HB.out | apply below_alloc | apply pw_below_drewN | apply below_drew1 | refine below_set ?_ GE615.out) | exact HB.out)) hb)
  clear HO619
  clear HO622
  clear BK615
  clear HB
  have HO619 := n0_
  have HO622 := n1_
  have BK615 := n2_
  have HB := n3_
  clear n0_ n1_ n2_ n3_
  (try clear hb)
  (try clear hb2)
  (try clear hk)
  (try clear hi)
  refine hK.out _ _ ((blk_cell BK615.out 0).trans rfl) (fun hHeld => ?_)
  clear hK K
  refine norm_ (a' := ?_) ?_ ?_
  rotate_left
  ·
   show Act.put _ (some 15) _ = _
   simp only [Act.put, List.setIfInBounds_toArray, List.set_cons_zero, List.set_cons_succ, i64_w, i32_w]
   rfl
  refine pure_ (i := 6) (N := some 4) (v := ?_) (a' := ?_) #[true, true, true, true, true, true, true, false] rfl rfl (any_of HT_.out (by kernel_rfl)) (fun _ _ _ h => h) (Or.inl ⟨by rfl, ?_⟩) ?_ ?_
  rotate_left
  ·
   intro w'
   go_simp
   with_reducible rfl
  rotate_left
  ·
   simp only [Act.put, List.setIfInBounds_toArray, List.set_cons_zero, List.set_cons_succ, i64_w, i32_w]
   rfl
  refine pure_ (i := 7) (N := some 5) (v := ?_) (a' := ?_) #[true, true, true, true, true, true, true, true] rfl rfl (any_of HT_.out (by kernel_rfl)) (fun _ _ _ h => h) (Or.inl ⟨by rfl, ?_⟩) ?_ ?_
  rotate_left
  ·
   intro w'
   go_simp
   with_reducible rfl
  rotate_left
  ·
   simp only [Act.put, List.setIfInBounds_toArray, List.set_cons_zero, List.set_cons_succ, i64_w, i32_w]
   rfl
  refine done_ (done_of HT_.out (by kernel_rfl)) ?_
  try go_wp2
  go_ret2
  exact ⟨by first | rfl | (simp [errW_none, errW_some] <;> rfl) | (simp [*, errW_none, errW_some] <;> rfl), by repeat (first | (with_reducible first | exact HB.out | apply below_alloc | apply pw_below_drewN | apply below_drew1 | refine below_set ?_ GE615.out) | exact HB.out)⟩
 ·
  replace c4 := Bool.eq_false_iff.mpr c4
  subst c4
  have H1 : (some (0, false)) = some (r1, r2) := by rw [if_neg (show ¬ (false = true) by decide)] at H; exact H
  clear H
  have H := H1
  clear H1
  simp only [Option.some.injEq, Prod.mk.injEq] at H
  obtain ⟨rfl, rfl⟩ := H
  go_enter Try.func33, Try.ntmps33
  go_wp2_with (first | ((with_reducible refine gate_dst (N := 2) rfl ?_); refine box_event ?hg (N := 2) ?hd (cs := #[.slice A0_0 l0_0.length c0_0]) (t := 28) ?hr ?_; (case hd => rfl); (case hg => rfl); (case hr => first | (go_simp; done) | (go_simp; rfl)); intro gb615 hg w17 hbox hb; have n0_ := Aside0.mk (below_step (by repeat (first | (with_reducible first | exact HB.out | apply below_alloc | apply pw_below_drewN | apply below_drew1) | exact HB.out)) hb); have n1_ := Aside0.mk (hbox); have n2_ := Aside0.mk ((by rw [hg]; exact (below_size (by repeat (first | (with_reducible first | exact HB.out | apply below_alloc | apply pw_below_drewN | apply below_drew1) | exact HB.out))) : w.heap.size ≤ gb615)); have n3_ := Aside0.mk ((by rw [hg]; exact (below_size (by repeat (first | (with_reducible first | exact HB.out | apply below_alloc | apply pw_below_drewN | apply below_drew1) | exact HB.out))) : w.heap.size ≤ gb615)); clear HB; have HB := n0_; have BK615 := n1_; have GW615 := n2_; have GE615 := n3_; clear n0_ n1_ n2_ n3_; clear hb hbox hg; have hcz18_0 : w17.cell? ⟨gb615, 0, none⟩ = some (.slice A0_0 l0_0.length c0_0) := (blk_cell BK615.out 0).trans rfl; have hfz18_0 := blk_frozen BK615.out 0) | ((with_reducible refine gate_callee (f := 50) rfl ?_); refine goesL_ (some 8) rfl rfl Try.func50 (by kernel_rfl) rfl #[.agg #[.slice A0_0 l0_0.length c0_0], .int .i64 a1] rfl (by (try simp only [List.map_toArray, List.map_cons, List.map_nil]); first | done | rfl | (simp only [List.length_drop, List.length_take]; rfl)) ?_; (with_reducible refine (impl_isRankedIdeal.calls k _ _ l0_0 a1 false _ ?side1 ?side2 A3.out).mono ?_); (case side1 => repeat (first | exact (Kd.C_below HR0_0.out HB.out) | (with_reducible refine Kd.C_alloc ?_ _) | (with_reducible refine Kd.C_drewN ?_ _) | (with_reducible refine Kd.C_drew ?_))); (case side2 => exact HC0_0.out); rintro e w19 ⟨rfl, hb⟩; refine ⟨_, rfl, ?_⟩; have n0_ := Aside0.mk (blk_below (g := gb615) (o := .cells #[.slice A0_0 l0_0.length c0_0] 28 (0, 0)) (by (with_reducible repeat (first | refine blk_drewN ?_ _ | refine blk_drew ?_ | refine blk_alloc ?_ _)); exact BK615.out) hb); have n1_ := Aside0.mk (below_step (by repeat (first | (with_reducible first | exact HB.out | apply below_alloc | apply pw_below_drewN | apply below_drew1 | refine below_set ?_ GE615.out) | exact HB.out)) hb); clear BK615; clear HB; have BK615 := n0_; have HB := n1_; clear n0_ n1_; (try clear hb); (try clear hb2); (try clear hk); (try clear hi)))
  go_ret2
  exact ⟨by first | rfl | (simp [errW_none, errW_some] <;> rfl) | (simp [*, errW_none, errW_some] <;> rfl), by repeat (first | (with_reducible first | exact HB.out | apply below_alloc | apply pw_below_drewN | apply below_drew1 | refine below_set ?_ GE615.out) | exact HB.out)⟩
end Go.Proofs.Ytpdgiinedbdamaa.L
end
section
namespace Go.Proofs.Ytpdgiinedbdamaa.L
open Go.RowKit Go.Proofs.YtpdgiinedbdamaaW.PrintWords Go.Proofs.YtpdgiinedbdamaaW.PrintLast Go.Proofs.YtpdgiinedbdamaaW.PrintMore
attribute [local go_sem] max2_int min2_int max_two min_two max_three min_three max_four min_four
set_option linter.unusedVariables false
set_option linter.unusedSimpArgs false
def spec_rvWord.l0 : Nat → Int → List Int → List Int → Int → Int → List Int → Option (Int)
 | 0, _, _, _, _, _, _ => none
 | k + 1, x1, x7, x12, x13, x14, x523000 => if x14 < x13 then (if 0 ≤ x14 then (if x14 < (x12.length : Int) then (if 0 ≤ (rd x12 x14) then (if (rd x12 x14) < (x7.length : Int) then ((spec_rvAt.f k x523000 x1 (rd x7 (rd x12 x14))).bind fun t528 => (spec_rvWord.l0 k t528 x7 x12 x13 (wrap64 (x14 + 1)) x523000)) else (none)) else (none)) else (none)) else (none)) else (some x1)
def spec_rvWord.f (k : Nat) (l0_0 : List Int) (a1 : Int) (l2 : List Int) : Option (Int) := (spec_rvRanks.f k l0_0).bind fun t523 => (spec_rvWord.l0 k a1 t523 l2 (l2.length : Int) 0 l0_0)
theorem spec_rvWord.mono_l : ∀ k, (∀ y0 y1 y2 y3 y4 y5, LeO (spec_rvWord.l0 k y0 y1 y2 y3 y4 y5) (spec_rvWord.l0 (k + 1) y0 y1 y2 y3 y4 y5))
 | 0 => fun _ _ _ _ _ _ r h => by simp [spec_rvWord.l0] at h
 | k + 1 => by
  have ih0 := spec_rvWord.mono_l k
  ·
   intro y0 y1 y2 y3 y4 y5
   unfold spec_rvWord.l0
   repeat' first
   | (with_reducible exact ih0 _ _ _ _ _ _)
   | (with_reducible exact spec_rvAt.mono _ _ _ _)
   | (with_reducible exact spec_rvRanks.mono _ _)
   | (with_reducible exact LeO.refl _)
   | (with_reducible exact LeO.none _)
   | (with_reducible refine LeO.ite ?_ ?_)
   | (with_reducible refine LeO.bind ?_ (fun _ => ?_))
   | exact ih0 _ _ _ _ _ _
   | exact spec_rvAt.mono _ _ _ _
   | exact spec_rvRanks.mono _ _
   | exact LeO.none _
   | refine LeO.ite ?_ ?_
   | refine LeO.bind ?_ (fun _ => ?_)
theorem spec_rvWord.mono : ∀ a0 a1 a2 k, LeO (spec_rvWord.f k a0 a1 a2) (spec_rvWord.f (k + 1) a0 a1 a2) := by
 intro a0 a1 a2 k
 have ih0 := spec_rvWord.mono_l k
 unfold spec_rvWord.f
 repeat' first
   | (with_reducible exact ih0 _ _ _ _ _ _)
   | (with_reducible exact spec_rvAt.mono _ _ _ _)
   | (with_reducible exact spec_rvRanks.mono _ _)
   | (with_reducible exact LeO.refl _)
   | (with_reducible exact LeO.none _)
   | (with_reducible refine LeO.ite ?_ ?_)
   | (with_reducible refine LeO.bind ?_ (fun _ => ?_))
   | exact ih0 _ _ _ _ _ _
   | exact spec_rvAt.mono _ _ _ _
   | exact spec_rvRanks.mono _ _
   | exact LeO.none _
   | refine LeO.ite ?_ ?_
   | refine LeO.bind ?_ (fun _ => ?_)
def spec_rvWord.T5 : Bool × List (List Nat × List Nat) := (true, [([], []), ([], []), ([], []), ([], []), ([2, 3], [2, 3]), ([4], [4]), ([0, 1, 5], [0, 1, 5]), ([6, 6, 0, 1, 2, 3, 4, 5, 6], [1, 6])])
def spec_rvWord.B5 : List Nat := [0, 0, 0, 0, 12, 28, 63, 127]
theorem spec_rvWord.tab5 : rtab .any (opsOf Try.f64 5) = spec_rvWord.T5 := by kernel_rfl
theorem spec_rvWord.bits5 : waitsOk spec_rvWord.T5.2 spec_rvWord.B5 = true := by kernel_rfl
set_option maxHeartbeats 8000000 in
set_option maxRecDepth 100000 in
theorem spec_rvWord.calls (k : Nat) (A0_0 : Option Addr) (c0_0 : Nat) (l0_0 : List Int) (a1 : Int) (A2 : Option Addr) (c2 : Nat) (l2 : List Int) (r : Int) (w : World) (hr0_0 : Kd.C (Kd.int .i64) w A0_0 l0_0.length l0_0) (hc0_0 : l0_0.length ≤ c0_0) (hr2 : Kd.C (Kd.int .i64) w A2 l2.length l2) (hc2 : l2.length ≤ c2) (h : spec_rvWord.f k l0_0 a1 l2 = some r) :
  Calls Try.prog 64 #[.agg #[.slice A0_0 l0_0.length c0_0], .int .i64 a1, .slice A2 l2.length c2] w fun e w' => e = .returned (.int .i64 r) ∧ Below w.heap.size w w' := by
 have hu28 := Try.underlying28
 have HR0_0 := Aside0.mk hr0_0
 have HC0_0 := Aside0.mk hc0_0
 clear hr0_0 hc0_0
 have HR2 := Aside0.mk hr2
 have HC2 := Aside0.mk hc2
 clear hr2 hc2
 have HB := Aside0.mk (Below.refl w.heap.size w)
 have H : ((spec_rvRanks.f k l0_0).bind fun t523 => (spec_rvWord.l0 k a1 t523 l2 (l2.length : Int) 0 l0_0)) = some r := h
 clear h
 replace H := Option.bind_eq_some_iff.mp H
 obtain ⟨t523, A40, H⟩ := H
 replace H : (spec_rvWord.l0 k a1 t523 l2 (l2.length : Int) 0 l0_0) = some r := H
 have A4 := Aside0.mk A40
 clear A40
 have H' := Aside0.mk H
 clear H
 go_enter Try.func64, Try.ntmps64
 go_wp2_with (first | ((with_reducible refine gate_dst (N := 3) rfl ?_); refine box_event ?hg (N := 3) ?hd (cs := #[.slice A0_0 l0_0.length c0_0]) (t := 28) ?hr ?_; (case hd => rfl); (case hg => rfl); (case hr => first | (go_simp; done) | (go_simp; rfl)); intro gb522 hg w5 hbox hb; have n0_ := Aside0.mk (below_step (by repeat (first | (with_reducible first | exact HB.out | apply below_alloc | apply pw_below_drewN | apply below_drew1) | exact HB.out)) hb); have n1_ := Aside0.mk (hbox); have n2_ := Aside0.mk ((by rw [hg]; exact (below_size (by repeat (first | (with_reducible first | exact HB.out | apply below_alloc | apply pw_below_drewN | apply below_drew1) | exact HB.out))) : w.heap.size ≤ gb522)); have n3_ := Aside0.mk ((by rw [hg]; exact (below_size (by repeat (first | (with_reducible first | exact HB.out | apply below_alloc | apply pw_below_drewN | apply below_drew1) | exact HB.out))) : w.heap.size ≤ gb522)); clear HB; have HB := n0_; have BK522 := n1_; have GW522 := n2_; have GE522 := n3_; clear n0_ n1_ n2_ n3_; clear hb hbox hg; have hcz6_0 : w5.cell? ⟨gb522, 0, none⟩ = some (.slice A0_0 l0_0.length c0_0) := (blk_cell BK522.out 0).trans rfl; have hfz6_0 := blk_frozen BK522.out 0) | ((with_reducible refine gate_callee (f := 68) rfl ?_); refine goesL_ (some 11) rfl rfl Try.func68 (by kernel_rfl) rfl #[.agg #[.slice A0_0 l0_0.length c0_0]] rfl (by (try simp only [List.map_toArray, List.map_cons, List.map_nil]); first | done | rfl | (simp only [List.length_drop, List.length_take]; rfl)) ?_; (with_reducible refine (spec_rvRanks.calls k _ _ l0_0 t523 _ ?side1 ?side2 A4.out).mono ?_); (case side1 => repeat (first | exact (Kd.C_below HR0_0.out HB.out) | (with_reducible refine Kd.C_alloc ?_ _) | (with_reducible refine Kd.C_drewN ?_ _) | (with_reducible refine Kd.C_drew ?_))); (case side2 => exact HC0_0.out); rintro e w7 ⟨v524, rfl, ho0, hb⟩; refine ⟨_, rfl, ?_⟩; have n0_ := Aside0.mk (Kd.R_lower ho0 (below_size (by repeat (first | (with_reducible first | exact HB.out | apply below_alloc | apply pw_below_drewN | apply below_drew1 | refine below_set ?_ GE522.out) | exact HB.out)))); have n1_ := Aside0.mk (blk_below (g := gb522) (o := .cells #[.slice A0_0 l0_0.length c0_0] 28 (0, 0)) (by (with_reducible repeat (first | refine blk_drewN ?_ _ | refine blk_drew ?_ | refine blk_alloc ?_ _)); exact BK522.out) hb); have n2_ := Aside0.mk (below_step (by repeat (first | (with_reducible first | exact HB.out | apply below_alloc | apply pw_below_drewN | apply below_drew1 | refine below_set ?_ GE522.out) | exact HB.out)) hb); clear BK522; clear HB; have HO525 := n0_; have BK522 := n1_; have HB := n2_; clear n0_ n1_ n2_; (try clear hb); (try clear hb2); (try clear hk); (try clear hi); (try clear ho0)))
 go_loopg [1, 14] k (fun kq v1 v14 w' => ∃ (x1_1 : Int) (x14_1 : Int), v1 = .int .i64 x1_1 ∧ v14 = .int .i64 x14_1 ∧ Aside0 (spec_rvWord.l0 kq x1_1 t523 l2 (l2.length : Int) x14_1 l0_0 = some r) ∧ Aside0 (kq ≤ k) ∧ Aside0 (Kd.R (Kd.int .i64) 3 w' w.heap.size (fun _ => True) v524 t523) ∧ Aside0 (w'.heap[gb522]? = some (.cells #[(.slice A0_0 l0_0.length c0_0)] 28 (0, 0))) ∧ Aside0 (Below w.heap.size w w'))
 case atStart => exact ⟨(a1), (0), (by first | rfl | (simp; done) | (simp [*]; done)), (by first | rfl | (simp; done) | (simp [*]; done)), H', ⟨Nat.le_refl _⟩, ⟨by (with_reducible repeat (first | apply Kd.R_alloc | apply Kd.R_drewN | apply Kd.R_drew)); exact HO525.out⟩, ⟨by (with_reducible repeat (first | refine blk_drewN ?_ _ | refine blk_drew ?_ | refine blk_alloc ?_ _)); exact BK522.out⟩, ⟨by repeat (first | (with_reducible first | exact HB.out | apply below_alloc | apply pw_below_drewN | apply below_drew1 | refine below_set ?_ GE522.out) | exact HB.out)⟩⟩
 case round =>
  clear H'
  try clear c2
  try clear p2
  try clear c6
  try clear hcz6_0
  try clear hfz6_0
  obtain ⟨x1_1, x14_1, rfl, rfl, HA, HK1, HO_7, BK522, HB⟩ := hrel
  cases gk with
  | zero => exact absurd HA.out (by simp [spec_rvWord.l0])
  | succ k1 =>
   have H := HA.out
   clear HA
   simp only [spec_rvWord.l0] at H
   by_cases c8 : x14_1 < (l2.length : Int)
   ·
    rw [if_pos c8] at H
    have c8b0 : decide (x14_1 < (l2.length : Int)) = true := decide_eq_true c8
    clear c8
    by_cases c9 : 0 ≤ x14_1
    ·
     rw [if_pos c9] at H
     have c9b0 : decide (0 ≤ x14_1) = true := decide_eq_true c9
     clear c9
     by_cases c10 : x14_1 < (l2.length : Int)
     ·
      rw [if_pos c10] at H
      have c10b0 : decide (x14_1 < (l2.length : Int)) = true := decide_eq_true c10
      clear c10
      by_cases c11 : 0 ≤ (rd l2 x14_1)
      ·
       rw [if_pos c11] at H
       have c11b0 : decide (0 ≤ (rd l2 x14_1)) = true := decide_eq_true c11
       clear c11
       by_cases c12 : (rd l2 x14_1) < (t523.length : Int)
       ·
        rw [if_pos c12] at H
        have c12b0 : decide ((rd l2 x14_1) < (t523.length : Int)) = true := decide_eq_true c12
        clear c12
        replace H := Option.bind_eq_some_iff.mp H
        obtain ⟨t528, A130, H⟩ := H
        replace H : (spec_rvWord.l0 k1 t528 t523 l2 (l2.length : Int) (wrap64 (x14_1 + 1)) l0_0) = some r := H
        have A13 := Aside0.mk A130
        clear A130
        have H' := Aside0.mk H
        clear H
        have p526 : 0 ≤ (x14_1 : Int) := of_decide_eq_true (by first | (with_reducible assumption) | assumption)
        have q526 : x14_1 < (l2.length : Int) := of_decide_eq_true (by first | (with_reducible assumption) | assumption)
        obtain ⟨ad526, e526, hx526_0⟩ := Kd.at_int HR2.out x14_1 p526 q526
        cases e526
        replace hx526_0 := (HB.out.cell (World.block_lt_of_cell? w _ hx526_0)).trans hx526_0
        replace p526 := eq_true p526
        replace q526 := eq_true q526
        try go_wp2
        have n0_ := Aside0.mk (Kd.R_drew HO_7.out)
        have n1_ := Aside0.mk (blk_drew BK522.out)
        have n2_ := Aside0.mk (below_drew1 HB.out)
        clear HO_7
        clear BK522
        clear HB
        have HO_7 := n0_
        have BK522 := n1_
        have HB := n2_
        clear n0_ n1_ n2_
        obtain ⟨Ao15, co15, eo15⟩ := Kd.R_slice HO_7.out
        (first | subst eo15 | (injection eo15 with f1_ f2_ f3_; have f4_ := f1_.symm; have f5_ := f3_.symm; clear f1_ f2_ f3_; subst f4_; subst f5_))
        have p527 : 0 ≤ ((rd l2 x14_1) : Int) := of_decide_eq_true (by first | (with_reducible assumption) | assumption)
        have q527 : (rd l2 x14_1) < (t523.length : Int) := of_decide_eq_true (by first | (with_reducible assumption) | assumption)
        obtain ⟨ad527, e527, hx527_0⟩ := Kd.at_int (Kd.R_reads' HO_7.out).2.2 (rd l2 x14_1) p527 q527
        cases e527
        replace p527 := eq_true p527
        replace q527 := eq_true q527
        refine start_ (n := 8) (S := fun w' => w'.cell? ⟨gb522, 0, none⟩ = some (.slice A0_0 l0_0.length c0_0) ∧ w'.cell? (ad527.add ((rd l2 x14_1)).toNat) = some (.int .i64 (rd t523 (rd l2 x14_1)))) (ds := []) #[false, false, false, false, false, false, false, false] (by kernel_rfl) rfl rfl ⟨(blk_cell BK522.out 0).trans rfl, hx527_0⟩ (fun hHeld => ?_); refine with_tabW spec_rvWord.tab5 spec_rvWord.bits5 (fun HT_ HW_ => ?_)
        generalize wr.drew = w14 at HO_7 BK522 HB hx527_0 hHeld ⊢
        refine pure_ (i := 1) (N := some 19) (v := ?_) (a' := ?_) #[false, true, false, false, false, false, false, false] rfl rfl (any_of HT_.out (by kernel_rfl)) (fun _ _ _ h => h) (Or.inl ⟨by rfl, ?_⟩) ?_ ?_
        rotate_left
        ·
         intro w'
         go_simp
         with_reducible rfl
        rotate_left
        ·
         simp only [Act.put, List.setIfInBounds_toArray, List.set_cons_zero, List.set_cons_succ, i64_w, i32_w]
         rfl
        refine pure_ (i := 2) (N := some 20) (v := ?_) (a' := ?_) #[false, true, true, false, false, false, false, false] rfl rfl (any_of HT_.out (by kernel_rfl)) (fun _ _ _ h => h) (Or.inl ⟨by rfl, ?_⟩) ?_ ?_
        rotate_left
        ·
         intro w'
         go_simp
         with_reducible rfl
        rotate_left
        ·
         simp only [Act.put, List.setIfInBounds_toArray, List.set_cons_zero, List.set_cons_succ, i64_w, i32_w]
         rfl
        refine pure_ (i := 3) (N := some 21) (v := ?_) (a' := ?_) #[false, true, true, true, false, false, false, false] rfl rfl (any_of HT_.out (by kernel_rfl)) (fun _ _ _ h => h) (Or.inl ⟨by rfl, ?_⟩) ?_ ?_
        rotate_left
        ·
         intro w'
         go_simp
         with_reducible rfl
        rotate_left
        ·
         simp only [Act.put, List.setIfInBounds_toArray, List.set_cons_zero, List.set_cons_succ, i64_w, i32_w]
         rfl
        refine pure_ (i := 4) (N := some 22) (v := ?_) (a' := ?_) #[false, true, true, true, true, false, false, false] rfl rfl (any_of HT_.out (by kernel_rfl)) (fun _ _ _ h => h) (Or.inl ⟨by rfl, ?_⟩) ?_ ?_
        rotate_left
        ·
         intro w'
         go_simp
         with_reducible rfl
        rotate_left
        ·
         simp only [Act.put, List.setIfInBounds_toArray, List.set_cons_zero, List.set_cons_succ, i64_w, i32_w]
         rfl
        refine take_ (i := 0) (N := some 18) (v := ?_) (a' := ?_) #[true, true, true, true, true, false, false, false] rfl rfl (take_ofW HT_.out HW_.out (by kernel_rfl)) (fun _ _ _ h => h) (Or.inl ⟨by rfl, ?_⟩) hHeld ?_ ?_
        rotate_left
        ·
         rintro w' ⟨s0, s1⟩
         go_simp
         with_reducible rfl
        rotate_left
        ·
         simp only [Act.put, List.setIfInBounds_toArray, List.set_cons_zero, List.set_cons_succ, i64_w, i32_w]
         rfl
        refine take_ (i := 5) (N := some 23) (v := ?_) (a' := ?_) #[true, true, true, true, true, true, false, false] rfl rfl (take_ofW HT_.out HW_.out (by kernel_rfl)) (fun _ _ _ h => h) (Or.inl ⟨by rfl, ?_⟩) hHeld ?_ ?_
        rotate_left
        ·
         rintro w' ⟨s0, s1⟩
         go_simp
         with_reducible rfl
        rotate_left
        ·
         simp only [Act.put, List.setIfInBounds_toArray, List.set_cons_zero, List.set_cons_succ, i64_w, i32_w]
         rfl
        refine one_ (i := 6) (N := some 24) #[true, true, true, true, true, true, true, false] rfl rfl (one_of HT_.out (by kernel_rfl)) (by decide) (fun K hK => ?_)
        refine goes_ Try.func102 (by kernel_rfl) rfl #[.agg #[.slice A0_0 l0_0.length c0_0], .int .i64 x1_1, .int .i64 (rd t523 (rd l2 x14_1))] (by rfl) rfl rfl (by (try simp only [List.map_toArray, List.map_cons, List.map_nil]); first | done | rfl | (simp only [List.length_drop, List.length_take]; rfl)) ?_
        with_reducible refine (spec_rvAt.calls k1 _ _ l0_0 x1_1 (rd t523 (rd l2 x14_1)) t528 _ ?side1 ?side2 A13.out).mono ?_
        (case side1 => repeat (first | exact (Kd.C_below HR0_0.out HB.out) | (with_reducible refine Kd.C_alloc ?_ _) | (with_reducible refine Kd.C_drewN ?_ _) | (with_reducible refine Kd.C_drew ?_)))
        (case side2 => exact HC0_0.out)
        rintro e w16 ⟨rfl, hb⟩
        have HS1_ := (hb.cell (World.block_lt_of_cell? _ _ (hHeld.2))).trans (hHeld.2)
        refine ⟨_, rfl, ?_⟩
        have n0_ := Aside0.mk (Kd.R_below (by (with_reducible repeat (first | apply Kd.R_alloc | apply Kd.R_drewN | apply Kd.R_drew)); exact HO_7.out) hb)
        have n1_ := Aside0.mk (blk_below (g := gb522) (o := .cells #[.slice A0_0 l0_0.length c0_0] 28 (0, 0)) (by (with_reducible repeat (first | refine blk_drewN ?_ _ | refine blk_drew ?_ | refine blk_alloc ?_ _)); exact BK522.out) hb)
        have n2_ := Aside0.mk (below_step (by repeat (first | (with_reducible first | exact HB.out | apply below_alloc | apply pw_below_drewN | apply below_drew1 | refine below_set ?_ GE522.out) | exact HB.out)) hb)
        clear HO_7
        clear BK522
        clear HB
        have HO_7 := n0_
        have BK522 := n1_
        have HB := n2_
        clear n0_ n1_ n2_
        (try clear hb)
        (try clear hb2)
        (try clear hk)
        (try clear hi)
        refine hK.out _ _ ⟨(blk_cell BK522.out 0).trans rfl, HS1_⟩ (fun hHeld => ?_)
        clear hK K
        refine norm_ (a' := ?_) ?_ ?_
        rotate_left
        ·
         show Act.put _ (some 24) _ = _
         simp only [Act.put, List.setIfInBounds_toArray, List.set_cons_zero, List.set_cons_succ, i64_w, i32_w]
         rfl
        refine pure_ (i := 7) (N := some 1) (v := ?_) (a' := ?_) #[true, true, true, true, true, true, true, true] rfl rfl (any_of HT_.out (by kernel_rfl)) (fun _ _ _ h => h) (Or.inl ⟨by rfl, ?_⟩) ?_ ?_
        rotate_left
        ·
         intro w'
         go_simp
         with_reducible rfl
        rotate_left
        ·
         simp only [Act.put, List.setIfInBounds_toArray, List.set_cons_zero, List.set_cons_succ, i64_w, i32_w]
         rfl
        refine done_ (done_of HT_.out (by kernel_rfl)) ?_
        try go_wp2
        go_roundg k1
        case measure => have := HK1.out; omega
        case rel => exact ⟨(t528), (wrap64 (x14_1 + 1)), (by first | rfl | (simp; done) | (simp [*]; done)), (by first | rfl | (simp; done) | (simp [*]; done)), H', ⟨by have := HK1.out; omega⟩, ⟨by (with_reducible repeat (first | apply Kd.R_alloc | apply Kd.R_drewN | apply Kd.R_drew)); exact HO_7.out⟩, ⟨by (with_reducible repeat (first | refine blk_drewN ?_ _ | refine blk_drew ?_ | refine blk_alloc ?_ _)); exact BK522.out⟩, ⟨by repeat (first | (with_reducible first | exact HB.out | apply below_alloc | apply pw_below_drewN | apply below_drew1 | refine below_set ?_ GE522.out) | exact HB.out)⟩⟩
       ·
        rw [if_neg c12] at H
        exact absurd H (by simp)
      ·
       rw [if_neg c11] at H
       exact absurd H (by simp)
     ·
      rw [if_neg c10] at H
      exact absurd H (by simp)
    ·
     rw [if_neg c9] at H
     exact absurd H (by simp)
   ·
    rw [if_neg c8] at H
    have c8b0 : decide (x14_1 < (l2.length : Int)) = false := decide_eq_false c8
    clear c8
    obtain rfl := Option.some.inj H
    go_wp2
    go_ret
    exact ⟨by first | rfl | (simp [errW_none, errW_some] <;> rfl) | (simp [*, errW_none, errW_some] <;> rfl), by repeat (first | (with_reducible first | exact HB.out | apply below_alloc | apply pw_below_drewN | apply below_drew1 | refine below_set ?_ GE522.out) | exact HB.out)⟩
end Go.Proofs.Ytpdgiinedbdamaa.L
end
section
namespace Go.Proofs.Ytpdgiinedbdamaa.M
open Go.RowKit Go.Proofs.YtpdgiinedbdamaaW.PrintWords Go.Proofs.YtpdgiinedbdamaaW.PrintLast Go.Proofs.YtpdgiinedbdamaaW.PrintMore Go.Proofs.Ytpdgiinedbdamaa.L
set_option linter.unusedVariables false
def stepH (p : List Nat) (a : List Nat) (i : Nat) : Nat := foldBits i (less p i) (fun m e => max m (a.getD e 0 + 1)) 0
def hs (p : List Nat) : Nat → List Nat
 | 0 => []
 | i + 1 => hs p i ++ [stepH p (hs p i) i]
def ht (p : List Nat) : List Nat := hs p p.length
def hh (p : List Nat) (i : Nat) : Nat := (ht p).getD i 0
end Go.Proofs.Ytpdgiinedbdamaa.M
end
section
namespace Go.Proofs.Ytpdgiinedbdamaa.M
open Go.RowKit Go.Proofs.YtpdgiinedbdamaaW.PrintWords Go.Proofs.YtpdgiinedbdamaaW.PrintLast Go.Proofs.YtpdgiinedbdamaaW.PrintMore Go.Proofs.Ytpdgiinedbdamaa.L
set_option linter.unusedVariables false
end Go.Proofs.Ytpdgiinedbdamaa.M
end
section
namespace Go.Proofs.Ytpdgiinedbdamaa.M
open Go.RowKit Go.Proofs.YtpdgiinedbdamaaW.PrintWords Go.Proofs.YtpdgiinedbdamaaW.PrintLast Go.Proofs.YtpdgiinedbdamaaW.PrintMore Go.Proofs.Ytpdgiinedbdamaa.L
set_option linter.unusedVariables false
end Go.Proofs.Ytpdgiinedbdamaa.M
end
section
namespace Go.Proofs.Ytpdgiinedbdamaa.M
open Go.RowKit Go.Proofs.YtpdgiinedbdamaaW.PrintWords Go.Proofs.YtpdgiinedbdamaaW.PrintLast Go.Proofs.YtpdgiinedbdamaaW.PrintMore Go.Proofs.Ytpdgiinedbdamaa.L
set_option linter.unusedVariables false
end Go.Proofs.Ytpdgiinedbdamaa.M
end
section
namespace Go.Proofs.Ytpdgiinedbdamaa.M
open Go.RowKit Go.Proofs.YtpdgiinedbdamaaW.PrintWords Go.Proofs.YtpdgiinedbdamaaW.PrintLast Go.Proofs.YtpdgiinedbdamaaW.PrintMore Go.Proofs.Ytpdgiinedbdamaa.L
set_option linter.unusedVariables false
def putAt (l : List Int) (n : Int) (i : Nat) : List Int := l.take i ++ [n] ++ l.drop i
theorem putAt_perm (l : List Int) (n : Int) (i : Nat) : (putAt l n i).Perm (n :: l) := by
 unfold putAt
 rw [List.append_assoc]
 refine List.perm_middle.trans ?_
 show (n :: (l.take i ++ l.drop i)).Perm _
 rw [List.take_append_drop]
theorem putAt_sorted {l : List Int} {n : Int} {i : Nat} (hs : l.Pairwise (· ≤ ·)) (h1 : ∀ x ∈ l.take i, x ≤ n) (h2 : ∀ x ∈ l.drop i, n ≤ x) : (putAt l n i).Pairwise (· ≤ ·) := by
 have hs' := hs
 rw [← List.take_append_drop i l, List.pairwise_append] at hs'
 unfold putAt
 rw [List.append_assoc, List.pairwise_append]
 refine ⟨hs'.1, ?_, fun a ha b hb => ?_⟩
 ·
  exact List.pairwise_cons.mpr ⟨fun b hb => h2 b hb, hs'.2.1⟩
 ·
  rcases List.mem_cons.mp hb with e | hb
  ·
   rw [e]; exact h1 a ha
  ·
   exact hs'.2.2 a ha b hb
theorem rvPut_l0 (l : List Int) (n : Int) (hl : l.length ≤ 100000) (hs : l.Pairwise (· ≤ ·)) : ∀ (d i : Nat), i + d = l.length → (∀ x ∈ l.take i, x ≤ n) →
  ∃ r, Ev (fun k => spec_rvPut.l0 k l n (i : Int)) r ∧ r.Perm (n :: l) ∧ r.Pairwise (· ≤ ·)
 | 0, i, h, h1 => by
  refine ⟨putAt l n i, ?_, putAt_perm l n i, putAt_sorted hs h1 (fun x hx => by rw [List.drop_of_length_le (by omega)] at hx; cases hx)⟩
  refine Ev.step (fun _ => spec_rvPut.l0.eq_2 ..) (ev_neg (by omega) (ev_pos (by omega) (ev_pos (by omega) ?_)))
  rw [Int.toNat_natCast]
  refine ev_call (l1Own_eq _ (by rw [List.length_take]; omega)) (ev_pos (by rw [List.length_take]; omega) (ev_call rfl (ev_pos ?_ (Ev.now _))))
  rw [List.length_append, List.length_take, List.length_drop, List.length_singleton]
  omega
 | d + 1, i, h, h1 => by
  have hi : i < l.length := by omega
  by_cases c : l[i] ≤ n
  ·
   obtain ⟨r, r1, r2⟩ := rvPut_l0 l n hl hs d (i + 1) (by omega) (fun x hx => by
    rw [List.take_succ_eq_append_getElem hi] at hx
    rcases List.mem_append.mp hx with hx | hx
    ·
     exact h1 x hx
    ·
     rw [List.mem_singleton] at hx; rw [hx]; exact c)
   refine ⟨r, ?_, r2⟩
   refine Ev.step (fun _ => spec_rvPut.l0.eq_2 ..) (ev_pos (by omega) (ev_pos (by omega) ?_))
   rw [rd_get hi, wrap_succ (by omega)]
   exact ev_pos c r1
  ·
   refine ⟨putAt l n i, ?_, putAt_perm l n i, putAt_sorted hs h1 (fun x hx => ?_)⟩
   ·
    refine Ev.step (fun _ => spec_rvPut.l0.eq_2 ..) (ev_pos (by omega) (ev_pos (by omega) ?_))
    rw [rd_get hi]
    refine ev_neg c (ev_pos (by omega) ?_)
    rw [Int.toNat_natCast]
    refine ev_call (l1Own_eq _ (by rw [List.length_take]; omega)) (ev_pos (by rw [List.length_take]; omega) (ev_call rfl (ev_pos ?_ (Ev.now _))))
    rw [List.length_append, List.length_take, List.length_drop, List.length_singleton]
    omega
   ·
    rw [List.drop_eq_getElem_cons hi] at hx
    have hd : (l.drop i).Pairwise (· ≤ ·) := hs.sublist (List.drop_sublist i l)
    rw [List.drop_eq_getElem_cons hi] at hd
    rcases List.mem_cons.mp hx with e | hx
    ·
     rw [e]; omega
    ·
     have := (List.pairwise_cons.mp hd).1 x hx
     omega
theorem rvPut_ev (l : List Int) (n : Int) (hl : l.length ≤ 100000) (hs : l.Pairwise (· ≤ ·)) : ∃ r, Ev (fun k => spec_rvPut.f k l n) r ∧ r.Perm (n :: l) ∧ r.Pairwise (· ≤ ·) := rvPut_l0 l n hl hs l.length 0 (by omega) (fun x hx => by rw [List.take_zero] at hx; cases hx)
def Seen (N : Nat) (seen : List Bool) (met : List Nat) : Prop := seen.length = N ∧ ∀ s, s < N → seen.getD s false = decide (s ∈ met)
theorem Seen.snoc {N : Nat} {seen : List Bool} {met : List Nat} (h : Seen N seen met) (x : Nat) (hx : x < N) : Seen N (seen.set x true) (met ++ [x]) := by
 refine ⟨by rw [List.length_set]; exact h.1, fun s hs => ?_⟩
 by_cases e : s = x
 ·
  subst e
  have : s < seen.length := by rw [h.1]; exact hs
  simp [List.getD_eq_getElem?_getD, this]
 ·
  have h2 := h.2 s hs
  rw [List.getD_eq_getElem?_getD] at h2 ⊢
  rw [List.getElem?_set_ne (fun e' => e e'.symm), h2]
  simp [e]
end Go.Proofs.Ytpdgiinedbdamaa.M
end
section
namespace Go.Proofs.Ytpdgiinedbdamaa.M
open Go.RowKit Go.Proofs.YtpdgiinedbdamaaW.PrintWords Go.Proofs.YtpdgiinedbdamaaW.PrintLast Go.Proofs.YtpdgiinedbdamaaW.PrintMore Go.Proofs.Ytpdgiinedbdamaa.L
set_option linter.unusedVariables false
theorem tg_tg {p : List Nat} {s e : Nat} (hs : IsId p s) (he : e < p.length) : tg p (tg p s e) e = s := by
 have hlt : s ^^^ 2 ^ e < 2 ^ p.length := Nat.xor_lt_two_pow hs.1 (Nat.pow_lt_pow_right (by omega) he)
 have hx : s ^^^ 2 ^ e ^^^ 2 ^ e = s := by rw [Nat.xor_assoc, Nat.xor_self, Nat.xor_zero]
 by_cases c : idealB p (s ^^^ 2 ^ e) = true
 ·
  have e1 : tg p s e = s ^^^ 2 ^ e := by unfold tg; rw [if_pos c]
  rw [e1]
  unfold tg
  rw [hx, if_pos ((idealB_iff hs.1).mpr hs)]
 ·
  have e1 : tg p s e = s := by unfold tg; rw [if_neg c]
  rw [e1, e1]
theorem foldl_tg_id {p : List Nat} : ∀ (w : List Nat) (s : Nat), IsId p s → (∀ e ∈ w, e < p.length) → IsId p (w.foldl (tg p) s)
 | [], s, h, _ => h
 | e :: w, s, h, hw => by
  rw [List.foldl_cons]
  exact foldl_tg_id w _ (tg_id h (hw e List.mem_cons_self)) fun x hx => hw x (List.mem_cons_of_mem _ hx)
theorem foldl_tg_back {p : List Nat} : ∀ (w : List Nat) (s : Nat), IsId p s → (∀ e ∈ w, e < p.length) → w.foldl (tg p) (w.reverse.foldl (tg p) s) = s
 | [], s, h, _ => rfl
 | e :: w, s, h, hw => by
  have hw' : ∀ x ∈ w, x < p.length := fun x hx => hw x (List.mem_cons_of_mem _ hx)
  rw [List.reverse_cons, List.foldl_append, List.foldl_cons]
  show w.foldl (tg p) (tg p (tg p (w.reverse.foldl (tg p) s) e) e) = s
  rw [tg_tg (foldl_tg_id _ s h fun x hx => hw' x (List.mem_reverse.mp hx)) (hw e List.mem_cons_self)]
  exact foldl_tg_back w s h hw'
theorem row_inj {p : List Nat} (g : Good p) {s t : Nat} (hs : IsId p s) (ht : IsId p t) (e : row p s = row p t) : s = t := by
 have hr : ∀ x ∈ List.range p.length, x < p.length := fun x hx => List.mem_range.mp hx
 rw [← fold_row g hs, ← fold_row g ht] at e
 rw [← foldl_tg_back (List.range p.length) s hs hr, ← foldl_tg_back (List.range p.length) t ht hr, e]
end Go.Proofs.Ytpdgiinedbdamaa.M
end
section
namespace Go.Proofs.Ytpdgiinedbdamaa.M
open Go.RowKit Go.Proofs.YtpdgiinedbdamaaW.PrintWords Go.Proofs.YtpdgiinedbdamaaW.PrintLast Go.Proofs.YtpdgiinedbdamaaW.PrintMore Go.Proofs.Ytpdgiinedbdamaa.L
set_option linter.unusedVariables false
def PreIn (L : List Nat) (f : Nat → Nat) (met : List Nat) : Prop := ∀ z ∈ L, f z ∈ met → z ∈ met
theorem obOrbit_l0 {p : List Nat} (g : Good p) {met : List Nat} (hP : PreIn (idls p) (row p) met) (s : Nat) : ∀ (k : Nat) (own : List Nat) (y last : Nat), InL (idls p) (met ++ own) → last ∈ own → s ∈ own → y = row p last → (∀ w ∈ own, w ≠ s → ∃ z ∈ own, row p z = w ∧ z ≠ last) → (idls p).length < (met ++ own).length + k → own.length ≤ 2000 →
  ∃ R, orbW (row p) k (met ++ own) own y = (met ++ R, R) ∧ Ev (fun k' => spec_obOrbit.l0 k' (s : Int) (toI own) (y : Int) (toI p)) (toI R) ∧ InL (idls p) (met ++ R) ∧ PreIn (idls p) (row p) (met ++ R)
 | 0, own, y, last, hI, hl, hs, hy, hC, hk, ho => absurd (nodup_sub_len hI.1 hI.2) (by omega)
 | k + 1, own, y, last, hI, hl, hs, hy, hC, hk, ho => by
  have gl := idls_len g
  have hlen := nodup_sub_len hI.1 hI.2
  rw [List.length_append] at hlen hk
  have hlL : last ∈ idls p := hI.2 last (List.mem_append_right _ hl)
  have hnm : ∀ x ∈ own, x ∉ met := fun x hx hm => (List.nodup_append.mp hI.1).2.2 x hm x hx rfl
  have hlast : ∀ z ∈ idls p, row p z = y → z = last := fun z hz e => row_inj g (mem_idls.mp hz) (mem_idls.mp hlL) (by rw [e, hy])
  by_cases c : y = s
  ·
   refine ⟨own, ?_, ?_, hI, ?_⟩
   ·
    rw [orbW, if_pos (by rw [c]; exact List.mem_append_right _ hs)]
   ·
    exact Ev.step (fun _ => spec_obOrbit.l0.eq_2 ..) (ev_pos (by omega) (Ev.now _))
   ·
    intro z hz hm
    rcases List.mem_append.mp hm with hm | hm
    ·
     exact List.mem_append_left _ (hP z hz hm)
    ·
     refine List.mem_append_right _ ?_
     by_cases e : row p z = s
     ·
      rw [hlast z hz (e.trans c.symm)]; exact hl
     ·
      obtain ⟨z', h1, h2, h3⟩ := hC _ hm e
      have : z = z' := row_inj g (mem_idls.mp hz) (mem_idls.mp (hI.2 z' (List.mem_append_right _ h1))) h2.symm
      rw [this]; exact h1
  ·
   have hyn : y ∉ met ++ own := by
    intro hm
    rcases List.mem_append.mp hm with hm | hm
    ·
     rw [hy] at hm
     exact hnm last hl (hP last hlL hm)
    ·
     obtain ⟨z, h1, h2, h3⟩ := hC y hm c
     exact h3 (hlast z (hI.2 z (List.mem_append_right _ h1)) h2)
   have hyL : y ∈ idls p := by rw [hy, mem_idls]; exact row_id g (mem_idls.mp hlL)
   have hyo : y ∉ own := fun h => hyn (List.mem_append_right _ h)
   have hsn := hI.snoc hyL hyn
   rw [List.append_assoc] at hsn
   obtain ⟨R, r1, r2, r3, r4⟩ := obOrbit_l0 g hP s k (own ++ [y]) (row p y) y hsn (by simp) (List.mem_append_left _ hs) rfl (fun w hw hws => by
     rcases List.mem_append.mp hw with hw | hw
     ·
      obtain ⟨z, h1, h2, h3⟩ := hC w hw hws
      exact ⟨z, List.mem_append_left _ h1, h2, fun e => hyo (e ▸ h1)⟩
     ·
      rw [List.mem_singleton] at hw
      exact ⟨last, List.mem_append_left _ hl, by rw [hw, hy], fun e => hyo (e ▸ hl)⟩) (by simp only [List.length_append, List.length_singleton]; omega) (by rw [List.length_append, List.length_singleton]; omega)
   refine ⟨R, ?_, ?_, r3, r4⟩
   ·
    rw [orbW, if_neg hyn, List.append_assoc]; exact r1
   ·
    refine Ev.step (fun _ => spec_obOrbit.l0.eq_2 ..) (ev_neg (by omega) (ev_pos (by rw [toI_len]; omega) (Ev.bind (tgRow_ev g (mem_idls.mp hyL).1) ?_)))
    rw [← toI_one, ← toI_app]
    exact r2
theorem obOrbit_ev {p : List Nat} (g : Good p) {met : List Nat} (hP : PreIn (idls p) (row p) met) (hI : InL (idls p) met) {s : Nat} (hs : s ∈ idls p) (hn : s ∉ met) :
  ∃ R, orbW (row p) ((idls p).length + 1) met [] s = (met ++ R, R) ∧ Ev (fun k' => spec_obOrbit.f k' (toI p) (s : Int)) (toI R) ∧ InL (idls p) (met ++ R) ∧ PreIn (idls p) (row p) (met ++ R) := by
 obtain ⟨R, r1, r2, r3, r4⟩ := obOrbit_l0 g hP s (idls p).length [s] (row p s) s (hI.snoc hs hn) (by simp) (by simp) rfl (fun w hw hws => absurd (List.mem_singleton.mp hw) hws) (by rw [List.length_append, List.length_singleton]; omega) (by simp)
 refine ⟨R, ?_, Ev.bind (tgRow_ev g (mem_idls.mp hs).1) r2, r3, r4⟩
 rw [orbW, if_neg hn, List.nil_append]
 exact r1
def markAll (R : List Nat) (seen : List Bool) : List Bool := R.foldl (fun s t => s.set t true) seen
theorem Seen.marks {N : Nat} : ∀ (R : List Nat) {seen : List Bool} {met : List Nat}, Seen N seen met → (∀ x ∈ R, x < N) → Seen N (markAll R seen) (met ++ R)
 | [], seen, met, h, _ => by rw [List.append_nil]; exact h
 | x :: R, seen, met, h, hR => by
  have := Seen.marks R (h.snoc x (hR x List.mem_cons_self)) fun y hy => hR y (List.mem_cons_of_mem _ hy)
  rw [List.append_assoc] at this
  exact this
theorem obAll_l1 {p : List Nat} (R : List Nat) (hl : R.length ≤ 2000) (N : Nat) (hR : ∀ x ∈ R, x < N) (out : List (List Int)) (ho : out.length ≤ 20000) (ids : List Int) (q : Nat) (X : List (List Int)) : ∀ (d j : Nat) (seen : List Bool), j + d = R.length → seen.length = N →
  Ev (fun k => spec_obAll.l0 k (markAll (R.drop j) seen) (out ++ [toI R]) ids (ids.length : Int) (wrap64 ((q : Int) + 1)) (toI p)) X →
  Ev (fun k => spec_obAll.l1 k seen out (toI R) ids (ids.length : Int) (q : Int) (toI R) ((toI R).length : Int) (j : Int) (toI p)) X
 | 0, j, seen, h, hs, c => by
  refine Ev.step (fun _ => spec_obAll.l1.eq_2 ..) (ev_neg (by rw [toI_len]; omega) (ev_pos (by omega) ?_))
  rw [List.drop_of_length_le (by omega)] at c
  exact c
 | d + 1, j, seen, h, hs, c => by
  have hj : j < R.length := by omega
  have hx := hR _ (List.getElem_mem hj)
  have e0 : rd (toI R) (j : Int) = ((R[j] : Nat) : Int) := by rw [rd_toI]; simp [List.getD_eq_getElem?_getD, hj]
  refine Ev.step (fun _ => spec_obAll.l1.eq_2 ..) ?_
  rw [e0, wrap_succ (by omega), Int.toNat_natCast]
  refine ev_pos (by rw [toI_len]; omega) (ev_pos (by omega) (ev_pos (by rw [toI_len]; omega) (ev_pos (by omega) (ev_pos (by rw [hs]; omega) ?_))))
  rw [List.drop_eq_getElem_cons hj] at c
  exact obAll_l1 R hl N hR out ho ids q X d (j + 1) _ (by omega) (by rw [List.length_set]; exact hs) c
theorem obAll_l0 {p : List Nat} (g : Good p) (N : Nat) (hN : N = 2 ^ p.length) : ∀ (d q : Nat) (seen : List Bool) (met : List Nat) (out : List (List Int)), q + d = (idls p).length → Seen N seen met → InL (idls p) met → PreIn (idls p) (row p) met → out.length ≤ q →
  Ev (fun k => spec_obAll.l0 k seen out (toI (idls p)) ((toI (idls p)).length : Int) (q : Int) (toI p)) (out ++ (cycF (row p) ((idls p).length + 1) ((idls p).drop q) met).map toI)
 | 0, q, seen, met, out, h, hS, hI, hP, ho => by
  refine Ev.step (fun _ => spec_obAll.l0.eq_2 ..) (ev_neg (by rw [toI_len]; omega) ?_)
  rw [List.drop_of_length_le (by omega), cycF, List.map_nil, List.append_nil]
  exact Ev.now _
 | d + 1, q, seen, met, out, h, hS, hI, hP, ho => by
  have hq : q < (idls p).length := by omega
  have gl := idls_len g
  have hx := List.getElem_mem hq
  have hid := mem_idls.mp hx
  have hxN : (idls p)[q] < N := by rw [hN]; exact hid.1
  have e0 : rd (toI (idls p)) (q : Int) = (((idls p)[q] : Nat) : Int) := by rw [rd_toI]; simp [List.getD_eq_getElem?_getD, hq]
  rw [List.drop_eq_getElem_cons hq, cycF]
  refine Ev.step (fun _ => spec_obAll.l0.eq_2 ..) ?_
  rw [e0]
  have e2 : rdOf false seen (((idls p)[q] : Nat) : Int) = decide ((idls p)[q] ∈ met) := by unfold rdOf; rw [Int.toNat_natCast]; exact hS.2 _ hxN
  rw [e2]
  have hsl : (((idls p)[q] : Nat) : Int) < (seen.length : Int) := by rw [hS.1]; omega
  refine ev_pos (by rw [toI_len]; omega) (ev_pos (by omega) (ev_pos (by rw [toI_len]; omega) (ev_pos (Int.natCast_nonneg _) (ev_pos hsl ?_))))
  by_cases cm : (idls p)[q] ∈ met
  ·
   rw [if_pos cm, wrap_succ (by omega)]
   exact ev_pos (decide_eq_true cm) (obAll_l0 g N hN d (q + 1) seen met out (by omega) hS hI hP (by omega))
  ·
   rw [if_neg cm]
   obtain ⟨R, r1, r2, r3, r4⟩ := obOrbit_ev g hP hI hx cm
   have hRl : R.length ≤ 1024 := by
    have := nodup_sub_len r3.1 r3.2
    rw [List.length_append] at this
    omega
   have hRN : ∀ x ∈ R, x < N := fun x hx => by rw [hN]; exact (mem_idls.mp (r3.2 x (List.mem_append_right _ hx))).1
   rw [r1]
   refine ev_neg (by rw [decide_eq_true_eq]; exact cm) (Ev.bind r2 ?_)
   refine obAll_l1 R (by omega) N hRN out (by omega) _ q _ R.length 0 seen (by omega) hS.1 ?_
   have ih := obAll_l0 g N hN d (q + 1) (markAll R seen) (met ++ R) (out ++ [toI R]) (by omega) (hS.marks R hRN) r3 r4 (by rw [List.length_append, List.length_singleton]; omega)
   rw [List.append_assoc] at ih
   rw [List.drop_zero, wrap_succ (by omega), List.map_cons]
   exact ih
theorem obAll_ev {p : List Nat} (g : Good p) : Ev (fun k => spec_obAll.f k (toI p)) ((cycF (row p) ((idls p).length + 1) (idls p) []).map toI) := by
 have gle := g.le
 have gp := pow_le10 g
 have h := obAll_l0 g (2 ^ p.length) rfl (idls p).length 0 (List.replicate (2 ^ p.length) false) [] [] (by omega) ⟨by rw [List.length_replicate], fun s hs => by simp [List.getD_eq_getElem?_getD, hs]⟩ ⟨List.Pairwise.nil, fun y hy => absurd hy (by simp)⟩ (fun z hz h => absurd h (by simp)) (Nat.le_refl _)
 rw [List.drop_zero, List.nil_append] at h
 unfold spec_obAll.f
 rw [toI_len, shl_one (by omega), Int.toNat_natCast]
 exact ev_pos (Int.natCast_nonneg _) (ev_pos (Nat.le_trans gp (by decide)) (Ev.bind (poIdeals_ev g) h))
theorem obLengths_l0 (rows : List (List Int)) (hl : rows.length ≤ 100000) : ∀ (d i : Nat) (acc : List Int), i + d = rows.length → acc.length = i →
  Ev (fun k => spec_obLengths.l0 k acc rows (rows.length : Int) (i : Int)) (acc ++ (rows.drop i).map (fun r => (r.length : Int)))
 | 0, i, acc, h, ha => by
  refine Ev.step (fun _ => spec_obLengths.l0.eq_2 ..) (ev_neg (by omega) ?_)
  rw [List.drop_of_length_le (by omega), List.map_nil, List.append_nil]
  exact Ev.now _
 | d + 1, i, acc, h, ha => by
  have hi : i < rows.length := by omega
  refine Ev.step (fun _ => spec_obLengths.l0.eq_2 ..) (ev_pos (by omega) (ev_pos (by omega) (ev_pos (by omega) (ev_pos (by omega) ?_))))
  have e : rd_L1 rows (i : Int) = rows[i] := by unfold rd_L1; simp [List.getD_eq_getElem?_getD, hi]
  rw [e, List.drop_eq_getElem_cons hi, List.map_cons, wrap_succ (by omega)]
  have := obLengths_l0 rows hl d (i + 1) (acc ++ [(rows[i].length : Int)]) (by omega) (by rw [List.length_append, List.length_singleton]; omega)
  rw [List.append_assoc] at this
  exact this
theorem obLengths_ev {p : List Nat} (g : Good p) : Ev (fun k => spec_obLengths.f k (toI p)) (lens (cycF (row p) ((idls p).length + 1) (idls p) [])) := by
 have gl := idls_len g
 have hcl := cycF_len (f := row p) (N := (idls p).length + 1) (idls p) []
 refine Ev.bind (obAll_ev g) ?_
 have := obLengths_l0 ((cycF (row p) ((idls p).length + 1) (idls p) []).map toI) (by rw [List.length_map]; omega) _ 0 [] (Nat.zero_add _) rfl
 rw [List.drop_zero, List.nil_append, lens_toI] at this
 exact this
theorem specSort_l0 (ls : List Int) (hl : ls.length ≤ 2000) : ∀ (d q : Nat) (out : List Int), q + d = ls.length → out.Pairwise (· ≤ ·) → out.length = q →
  ∃ r, Ev (fun k => spec_SortedLengths.l0 k out ls (ls.length : Int) (q : Int)) (r, true) ∧ r.Pairwise (· ≤ ·) ∧ r.Perm (out ++ ls.drop q)
 | 0, q, out, h, hs, ho => by
  refine ⟨out, Ev.step (fun _ => spec_SortedLengths.l0.eq_2 ..) (ev_neg (by omega) (Ev.now _)), hs, ?_⟩
  rw [List.drop_of_length_le (by omega), List.append_nil]
 | d + 1, q, out, h, hs, ho => by
  have hq : q < ls.length := by omega
  obtain ⟨t, t1, t2, t3⟩ := rvPut_ev out ls[q] (by omega) hs
  have htl : t.length = out.length + 1 := by rw [t2.length_eq, List.length_cons]
  obtain ⟨r, r1, r2, r3⟩ := specSort_l0 ls hl d (q + 1) t (by omega) t3 (by omega)
  refine ⟨r, ?_, r2, ?_⟩
  ·
   refine Ev.step (fun _ => spec_SortedLengths.l0.eq_2 ..) (ev_pos (by omega) (ev_pos (by omega) (ev_pos (by omega) ?_)))
   rw [rd_get hq, wrap_succ (by omega)]
   exact Ev.bind t1 r1
  ·
   rw [List.drop_eq_getElem_cons hq]
   refine r3.trans ((t2.append_right _).trans ?_)
   exact List.perm_middle.symm
theorem agree_FnExactSortedLengths (l : List Int) (hl : l.length ≤ 1048576) : ∃ r : List Int × Bool, r.1.length ≤ 100000 ∧ Ev (fun k => spec_SortedLengths.f k l) r ∧ Ev (fun k => impl_SortedLengths.f k l) r := by
 by_cases h : goodB l = true
 ·
  obtain ⟨p, rfl, g⟩ := goodB_of h
  have gl := idls_len g
  have hcl := cycF_len (f := row p) (N := (idls p).length + 1) (idls p) []
  have hll : (lens (cycF (row p) ((idls p).length + 1) (idls p) [])).length ≤ 1024 := by unfold lens; rw [List.length_map]; omega
  obtain ⟨r, r1, r2, r3⟩ := specSort_l0 (lens (cycF (row p) ((idls p).length + 1) (idls p) [])) (by omega) _ 0 [] (Nat.zero_add _) List.Pairwise.nil rfl
  rw [List.drop_zero, List.nil_append] at r3
  refine ⟨(r, true), ?_, Ev.bind (poGood_ev _) (ev_pos h (Ev.bind (obLengths_ev g) r1)), ?_⟩
  ·
   show r.length ≤ _
   rw [r3.length_eq]; omega
  ·
   have hM : ∀ s ∈ idls p, Ev (fun k => impl_Poset_row.f k (toI p) (s : Int)) ((row p s : Nat) : Int) := fun s hs => row_ev g (mem_idls.mp hs).1
   have hf : ∀ s ∈ idls p, row p s ∈ idls p := fun s hs => mem_idls.mpr (row_id g (mem_idls.mp hs))
   have gp := pow_le10 g
   have hb : ∀ s ∈ idls p, s ≤ 1000000 := fun s hs => by have := (mem_idls.mp hs).1; omega
   have hcy := implCycles_ev (M := fun k x => impl_Poset_row.f k (toI p) x) hM hf (by omega) hb
   have hle := lengths_ev ((cycF (row p) ((idls p).length + 1) (idls p) []).map toI) (by rw [List.length_map]; omega)
   rw [lens_toI] at hle
   have hso := sorted_eq (l := lens (cycF (row p) ((idls p).length + 1) (idls p) [])) (by omega)
   rw [sort_eq r2 r3] at hso
   have hor : Ev (fun k => impl_Poset_orbits.f k (toI p)) ((cycF (row p) ((idls p).length + 1) (idls p) []).map toI) := Ev.bind (implIdeals_ev g) (ev_pos (by rw [toI_len]; omega) hcy)
   exact Ev.bind (isPoset_ev _) (ev_pos h (Ev.bind hor (Ev.bind hle (ev_call hso (Ev.now _)))))
 ·
  exact ⟨([], false), by simp, Ev.bind (poGood_ev _) (ev_neg h (Ev.now _)), Ev.bind (isPoset_ev _) (ev_neg h (Ev.now _))⟩
end Go.Proofs.Ytpdgiinedbdamaa.M
end
section
namespace Go.Proofs.Ytpdgiinedbdamaa.M
open Go.RowKit Go.Proofs.YtpdgiinedbdamaaW.PrintWords Go.Proofs.YtpdgiinedbdamaaW.PrintLast Go.Proofs.YtpdgiinedbdamaaW.PrintMore Go.Proofs.Ytpdgiinedbdamaa.L
theorem szIntS_eq (l : List Int) (h : l.length ≤ maxLen) : laws_szIntS.f l 1048576 = some (if 1048576 < l.length then -1 else 1048576 - (l.length : Int)) := by
 unfold maxLen at h
 unfold laws_szIntS.f
 rw [wrap_id (by omega) (by omega)]
 by_cases h2 : 1048576 < l.length
 ·
  rw [if_pos (by omega), if_pos h2]
 ·
  rw [if_neg (by omega), if_neg h2]
theorem szPoset_eq (l : List Int) (h : l.length ≤ maxLen) : laws_szPoset.f l 1048576 = some (if 1048576 < l.length then -1 else 1048576 - (l.length : Int)) := by
 unfold laws_szPoset.f
 rw [szIntS_eq l h, Option.bind_some]
 split
 ·
  rfl
 ·
  rw [if_neg (by omega)]
theorem toPoset_ev (l : List Int) (hl : l.length ≤ 35184372088832) : Ev (fun k => laws_toPoset.f k l) l := Ev.bind (toIntS_ev l hl) (Ev.now _)
theorem eqPoset_ev (a b : List Int) (hl : a.length ≤ 9223372036854775806) : Ev (fun k => laws_eqPoset.f k a b) (decide (a = b)) := by
 refine Ev.bind (eqIntS_ev a b hl) (ev_ite (fun e => ?_) (fun e => ?_))
 ·
  rw [e]; exact Ev.now _
 ·
  rw [Bool.eq_false_iff.mpr e]; exact Ev.now _
theorem eqPoset_refl (a : List Int) (hl : a.length ≤ 9223372036854775806) : Ev (fun k => laws_eqPoset.f k a a) true := by simpa using eqPoset_ev a a hl
theorem eqIntS_refl (a : List Int) (hl : a.length ≤ 9223372036854775806) : Ev (fun k => laws_eqIntS.f k a a) true := by simpa using eqIntS_ev a a hl
theorem markPoset_ev (l : List Int) (q : Nat) (hl : l.length ≤ 4611686018427387903) (hq : q ≤ 4611686018427387903) : Ev (fun k => laws_markPoset.f k l (q : Int)) (((q + l.length : Nat) : Int), marks q l.length) := Ev.bind (markIntS_ev l q hl hq) (Ev.now _)
end Go.Proofs.Ytpdgiinedbdamaa.M
end
section
namespace Go.Proofs.Ytpdgiinedbdamaa.Pure
open Go.RowKit Go.Proofs.YtpdgiinedbdamaaW.PrintWords Go.Proofs.YtpdgiinedbdamaaW.PrintLast Go.Proofs.YtpdgiinedbdamaaW.PrintMore Go.Proofs.Ytpdgiinedbdamaa.L Go.Proofs.Ytpdgiinedbdamaa.M
theorem FnExactSortedLengths : laws_FnExactSortedLengths.Pure2 := by
 intro l0 hm0 hw0
 refine Ev.rounds ?_
 refine ev_call (szPoset_eq l0 hm0) ?_
 by_cases b0 : 1048576 < l0.length
 ·
  rw [if_pos b0]; exact ev_pos (by decide) (Ev.now _)
 rw [if_neg b0]
 refine ev_neg (by omega) ?_
 have T0 := toPoset_ev l0 (by omega)
 have E0 := eqPoset_refl l0 (by omega)
 have M0 := markPoset_ev l0 (1) (by omega) (by omega)
 obtain ⟨r, hr, hs, hi⟩ := agree_FnExactSortedLengths l0 (by omega)
 have Er := eqIntS_refl r.1 (by omega)
 have Mr := markIntS_ev r.1 1 (by omega) (by omega)
 have Hr := heldIntS_ev 1 r.1.length (by omega) (by omega)
 repeat' first
  | with_reducible exact Ev.now true
  | with_reducible refine Ev.bind hs ?_
  | with_reducible refine Ev.bind hi ?_
  | with_reducible refine Ev.bind T0 ?_
  | with_reducible refine Ev.bind E0 ?_
  | with_reducible refine Ev.bind M0 ?_
  | with_reducible refine Ev.bind Er ?_
  | with_reducible refine Ev.bind Mr ?_
  | with_reducible refine Ev.bind Hr ?_
  | with_reducible refine Ev.step (fun _ => laws_FnExactSortedLengths.j0.eq_2 ..) ?_
  | with_reducible refine Ev.step (fun _ => laws_FnExactSortedLengths.j1.eq_2 ..) ?_
  | with_reducible refine Ev.step (fun _ => laws_FnExactSortedLengths.j2.eq_2 ..) ?_
  | with_reducible refine ev_pos rfl ?_
  | (with_reducible refine ev_neg ?h ?_; case h => first | (simp; done) | omega | (simp only; omega) | (simp; omega))
end Go.Proofs.Ytpdgiinedbdamaa.Pure
end
section
namespace Go.Proofs.Ytpdgiinedbdamaa.R
open Go.ChangeShapes Go.WideShapes Go.ChangeAt Go.RowKit
open Go.ChangeMaps (open_string shut_string)
set_option linter.unusedVariables false
def IsRow (k : IntKind) (w : World) (a : Option Addr) (len cap : Nat) (zs : List Int) : Prop :=
 (a = none ∧ len = 0 ∧ cap = 0 ∧ zs = []) ∨
 ∃ x, a = some x ∧ len ≤ cap ∧ cap ≤ maxLen ∧ zs.length = cap ∧ (∀ i, i < zs.length → w.cell? (x.add i) = some (.int k (zs.getD i 0))) ∧ ∀ n ∈ zs, (Lit.int k n).wf = true
variable {H : Type} {enc : TypeId × Value → H} {P : Program} {W : World} {base : Nat} {ps : List MemPlace}
theorem row_of {t e : TypeId} {k : IntKind} {fuel : Nat} {c : Value} {y : DataW H × List MemPlace} (hu : P.underlying t = some (.slice e)) (he : P.underlying e = some (.int k)) (hc : P.cellsOf e = 1)
  (hf : DataW.trod enc P W 0 (fun _ => true) true fuel t [c] = some y) : ∃ a len cap zs, c = .slice a len cap ∧ IsRow k W a len cap zs := by
 rcases open_ints hu he hc hf with ⟨hcs, _⟩ | ⟨x, l, c', zs, hcs, _, hl, hm, hz, _, hcell, hwz⟩
 ·
  simp only [List.cons.injEq, and_true] at hcs
  subst hcs
  exact ⟨_, _, _, [], rfl, .inl ⟨rfl, rfl, rfl, rfl⟩⟩
 ·
  simp only [List.cons.injEq, and_true] at hcs
  subst hcs
  exact ⟨_, _, _, zs, rfl, .inr ⟨_, rfl, hl, hm, by simpa using hz, hcell, hwz⟩⟩
theorem array1 {α : Type} {cs : Array α} (h : cs.size = 1) : ∃ c0, cs = #[c0] := by
 obtain ⟨l⟩ := cs
 match l, h with
 | [c0], _ => exact ⟨c0, rfl⟩
theorem open_poset {r : Reach} {t e : TypeId} {f : Field} {v : Value} {d : DataW H} (hs : P.underlying t = some (.struct #[f])) (ho : f.offset = 0) (hC : P.cellsOf t = 1) (hfc : P.cellsOf f.type = 1) (hu : P.underlying f.type = some (.slice e)) (he : P.underlying e = some (.int .i64)) (hc : P.cellsOf e = 1)
  (hv : Value.okWide P W r base t v) (h : DataW.Trod enc P W 0 (fun _ => true) true t v d ps) : ∃ a len cap zs, v = .agg #[.slice a len cap] ∧ IsRow .i64 W a len cap zs := by
 obtain ⟨cs, rfl, hsz⟩ := okWide_struct hs hv
 obtain ⟨c0, rfl⟩ := array1 (hsz.trans hC)
 obtain ⟨fuel, hf⟩ := h
 obtain ⟨y0, n, _, _, h0⟩ := trod_struct1 hs hf
 rw [ho, hfc] at h0
 obtain ⟨a, len, cap, zs, rfl, hz⟩ := row_of hu he hc (by simpa [Value.cells] using h0)
 exact ⟨a, len, cap, zs, rfl, hz⟩
theorem open_desk {r : Reach} {t e : TypeId} {f f1 g : Field} {v : Value} {d : DataW H} (hs : P.underlying t = some (.struct #[f, f1])) (ho : f.offset = 0) (ho1 : f1.offset = 1) (hC : P.cellsOf t = 2) (hfc : P.cellsOf f.type = 1) (hfc1 : P.cellsOf f1.type = 1)
  (hs2 : P.underlying f.type = some (.struct #[g])) (hgo : g.offset = 0) (hgc : P.cellsOf g.type = 1) (hu : P.underlying g.type = some (.slice e)) (he : P.underlying e = some (.int .i64)) (hc : P.cellsOf e = 1) (hi : P.underlying f1.type = some (.int .i64))
  (hv : Value.okWide P W r base t v) (h : DataW.Trod enc P W 0 (fun _ => true) true t v d ps) : ∃ a len cap zs x, v = .agg #[.slice a len cap, .int .i64 x] ∧ IsRow .i64 W a len cap zs ∧ (Lit.int .i64 x).wf = true := by
 obtain ⟨cs, rfl, hsz⟩ := okWide_struct hs hv
 obtain ⟨c0, c1, rfl⟩ := Joins.array2 (hsz.trans hC)
 obtain ⟨fuel, hf⟩ := h
 obtain ⟨y0, y1, n, _, _, h0, h1⟩ := trod_struct2 hs hf
 rw [ho, hfc] at h0
 rw [ho1, hfc1] at h1
 obtain ⟨z0, m, _, _, h00⟩ := trod_struct1 hs2 h0
 rw [hgo, hgc] at h00
 obtain ⟨a, len, cap, zs, rfl, hz⟩ := row_of hu he hc (by simpa [Value.cells] using h00)
 obtain ⟨x, e0, e1, wx⟩ := DataW.trod_int hi h1
 simp [Value.cells] at e0
 subst e0
 exact ⟨a, len, cap, zs, x, rfl, hz, wx⟩
end Go.Proofs.Ytpdgiinedbdamaa.R
end
section
namespace Go.Proofs.Ytpdgiinedbdamaa.fnExactSortedLengths
open Go.ChangeShapes Go.WideShapes Go.ChangeAt Go.RowKit Go.Proofs.YtpdgiinedbdamaaW.PrintWords Go.Proofs.Ytpdgiinedbdamaa.R
open Go.ChangeMaps (open_string shut_string)
set_option linter.unusedVariables false
theorem own : ownKnob Try.prog.godebug = none := by kernel_rfl
theorem laidOut : laidOutB Try.prog = true := by kernel_rfl
set_option maxRecDepth 100000 in
theorem lifted (os : Os) (started : os.Started) (H : Type) (enc : TypeId × Value → H) :
  ReturnsInHanded {} Try.checked os 11 .any (Rows.fnExactSortedLengthsSpec.pre6 enc Try.prog Try.f11 Rows.fnExactSortedLengthsRow.domain false) (Rows.fnExactSortedLengthsSpec.post enc Try.prog Try.f11 false true false false) := by
 refine returnsInHanded_of_change_sized (C := Try.checked) own started (by kernel_rfl) Try.func11
  (ChangeSpec.witness6 (enc := enc) (C := Try.checked) false ⟨#[], #[.agg #[.slice none 0 0]], []⟩ 8 (by kernel_rfl) (by kernel_rfl) (by kernel_rfl) (by kernel_rfl)) ?_
 intro W base args ds gs before hval0 hW hcnd hsz0 _
 have hval : ∀ (j : Nat) t v, Try.f11.params[j]? = some t → args[j]? = some v → Value.okWide Try.prog W .any base t v := hval0
 have hW' := hW
 obtain ⟨p, q, hA0, hV, rfl, hfz, hnd⟩ := hW
 have hA : DataW.TrodAll enc Try.prog W 0 (fun _ => true) true Try.f11.params.toList args.toList ds p := hA0
 rw [Try.params11] at hA hval
 obtain ⟨v0, vs0, d0, ds0, p0, q0, hargs, rfl, rfl, h0, r0⟩ := trodAll_cons hA
 obtain ⟨rfl, rfl, rfl⟩ := trodAll_nil r0
 obtain rfl : args = #[v0] := by cases args; simp_all
 obtain ⟨rfl, rfl⟩ := trodVars_none hV
 have k0 := h0
 have lt0 : ∀ x ∈ p0, x.block < W.heap.size := by obtain ⟨m, hm⟩ := k0; exact DataW.trod_lt m _ _ _ hm
 obtain ⟨A0, len0, cap0, z0, rfl, w0⟩ := open_poset Try.underlying24 rfl (by kernel_rfl) (by kernel_rfl) Try.underlying22 Try.underlying3 (by kernel_rfl) (hval 0 24 v0 rfl rfl) h0
 obtain ⟨l0, rfl, hr0, hm0, hw0, hc0⟩ := ReadsInt.ofRowC w0
 clear hA0 hval0 hsz0
 obtain ⟨k, hp⟩ := Pure.FnExactSortedLengths l0 hm0 hw0
 refine (L.laws_FnExactSortedLengths.calls k _ _ l0 true W (Kd.C_of_reads (d := (0 : Int)) (h1 := fun _ => rfl) hr0) hc0 hp).mono fun e W' ⟨he, hd⟩ => ?_
 have bel : Below W.heap.size W W' := hd
 subst he
 exact ⟨_, rfl, _, _, _, [], _, [], hW', trodAll_mk1 (shut_bool Try.underlying4 _), (trodAll_cons_mk (Below.trod laidOut (by kernel_rfl) (of_decide_eq_true (by kernel_rfl)) k0 bel lt0) trodAll_mk0), rfl, bel.frame _, fun h => by cases h⟩
theorem over : Rows.fnExactSortedLengthsRow.holds Try.pinned (OpenSpec.ofChange Rows.fnExactSortedLengthsSpec) :=
 OpenClaim.holds_of_wide 11 Try.f11 rfl rfl rfl rfl rfl rfl rfl ⟨rfl, rfl, rfl, rfl, rfl⟩ rfl rfl rfl rfl rfl (by kernel_rfl) Try.func11 (by kernel_rfl)
  (of_decide_eq_true (by kernel_rfl)) (by unfold Func.isWrapper; first | (rw [if_pos (by decide +kernel)]; kernel_rfl) | (rw [if_neg (by decide +kernel)]; exact ⟨rfl, rfl⟩))
  (fun os started H enc _ => lifted os started H enc)
theorem proved : Rows.FnExactSortedLengthsSaid := over
end Go.Proofs.Ytpdgiinedbdamaa.fnExactSortedLengths
namespace Go.Proofs.Ytpdgiinedbdamaa
theorem fnExactSortedLengths_holds : Rows.FnExactSortedLengthsSaid := fnExactSortedLengths.proved
end Go.Proofs.Ytpdgiinedbdamaa
end
