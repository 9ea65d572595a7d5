/- Laws about the given program: the law FnSievesOfRows answers true for every input that its row lets in; no condition is added to the given statement. Contracts of the Go functions that it reaches, and the plain proof over lists. -/
import Derived.Test.YtkgngggppcmpfaaGreatWFnSievesOfRows0
import Derived.Test.YtkgngggppcmpfaaGreatKFnSievesOfRows0
import Derived.Test.YtkgngggppcmpfaaGreatKFnSievesOfRows1
import Derived.Test.YtkgngggppcmpfaaGreatKFnSievesOfRows2
section
namespace Go.Proofs.YtkgngggppcmpfaaGreat.L
open Go.RowKit Go.Proofs.YtkgngggppcmpfaaGreatW.PrintWords Go.Proofs.YtkgngggppcmpfaaGreatW.PrintLast Go.Proofs.YtkgngggppcmpfaaGreatW.PrintMore Go.Proofs.YtkgngggppcmpfaaGreat.X
attribute [local go_sem] max2_int min2_int max_two min_two max_three min_three max_four min_four
set_option linter.unusedVariables false
set_option linter.unusedSimpArgs false
def spec_svRange.l0 : Nat → Int → List Int → Int → Option (List Int)
  | 0, _, _, _ => none
  | k + 1, x1, x5, x6 => if x6 ≤ x1 then (if x5.length < 17592186044416 then (spec_svRange.l0 k x1 (x5 ++ [x6]) (wrap64 (x6 + 1))) else (none)) else (some x5)
def spec_svRange.f (k : Nat) (a0 : Int) (a1 : Int) : Option (List Int) := spec_svRange.l0 k a1 ([] : List Int) a0
theorem spec_svRange.mono_l : ∀ k, (∀ y0 y1 y2, LeO (spec_svRange.l0 k y0 y1 y2) (spec_svRange.l0 (k + 1) y0 y1 y2))
  | 0 => fun _ _ _ r h => by simp [spec_svRange.l0] at h
  | k + 1 => by
    have ih0 := spec_svRange.mono_l k
    · intro y0 y1 y2
      unfold spec_svRange.l0
      repeat' first
      | (with_reducible exact ih0 _ _ _)
      | (with_reducible exact LeO.refl _)
      | (with_reducible exact LeO.none _)
      | (with_reducible refine LeO.ite ?_ ?_)
      | (with_reducible refine LeO.bind ?_ (fun _ => ?_))
      | exact ih0 _ _ _
      | exact LeO.none _
      | refine LeO.ite ?_ ?_
      | refine LeO.bind ?_ (fun _ => ?_)
theorem spec_svRange.mono : ∀ a0 a1 k, LeO (spec_svRange.f k a0 a1) (spec_svRange.f (k + 1) a0 a1) := by
  intro a0 a1 k
  have ih0 := spec_svRange.mono_l k
  unfold spec_svRange.f
  repeat' (with_reducible first | apply ih0 | exact LeO.refl _ | exact LeO.none _ | refine LeO.ite ?_ ?_ | refine LeO.bind ?_ (fun _ => ?_))
set_option maxHeartbeats 8000000 in
set_option maxRecDepth 100000 in
theorem spec_svRange.calls (k : Nat) (a0 : Int) (a1 : Int) (r : List Int) (w : World) (h : spec_svRange.f k a0 a1 = some r) :
    Calls Tryz.prog 205 #[.int .i64 a0, .int .i64 a1] w fun e w' => ∃ v0_ : Value, e = .returned (v0_) ∧ Kd.R (Kd.int .i64) 3 w' w.heap.size (fun _ => True) v0_ r ∧ Below w.heap.size w w' := by
  have HB := Aside0.mk (Below.refl w.heap.size w)
  have H : (spec_svRange.l0 k a1 ([] : List Int) a0) = some r := h
  clear h
  have H' := Aside0.mk H
  clear H
  go_enter Tryz.func205, Tryz.ntmps205
  go_wp2
  go_loopg [5, 6] k (fun kq v5 v6 w' => ∃ (x5_1 : List Int) (x6_1 : Int), v6 = .int .i64 x6_1 ∧ Aside0 (spec_svRange.l0 kq a1 x5_1 x6_1 = some r) ∧ Aside0 (kq ≤ k) ∧ Aside0 (Kd.R (Kd.int .i64) 3 w' w.heap.size (fun _ => True) v5 x5_1) ∧ Aside0 (Below w.heap.size w w'))
  case atStart => exact ⟨(([] : List Int)), (a0), (by first | rfl | (simp; done) | (simp [*]; done)), H', ⟨Nat.le_refl _⟩, ⟨by first | exact Kd.R_nil _ _ _ _ _ | exact Kd.N_nil _ _ _ _ _ | exact Kd.V_nil _ _ _ _ _ | exact Kd.Q_nil _ _ _ _ _ | exact Kd.S_nil _ _ _ _ _⟩, ⟨uB HB⟩⟩
  case round =>
    clear H'
    skip
    obtain ⟨x5_1, x6_1, rfl, HA, HK1, HO_5, HB⟩ := hrel
    cases gk with
    | zero => exact absurd HA.out (by simp [spec_svRange.l0])
    | succ k1 =>
      have H := HA.out
      clear HA
      simp only [spec_svRange.l0] at H
      by_cases c3 : x6_1 ≤ a1
      · rw [if_pos c3] at H
        have c3b0 := decide_eq_true c3
        clear c3
        by_cases c4 : x5_1.length < 17592186044416
        · rw [if_pos c4] at H
          have LMc4 := Aside0.mk c4
          clear c4
          obtain ⟨y260, hy260⟩ : ∃ y_ : List Int, y_ = (x5_1 ++ [x6_1]) := ⟨_, rfl⟩
          replace H : (spec_svRange.l0 k1 a1 y260 (wrap64 (x6_1 + 1))) = some r := by first | (rw [hy260]; with_reducible exact H) | (have H2_ := (Option.bind_some _ _).symm.trans H; rw [hy260]; with_reducible exact H2_) | (have H2_ := (Option.bind_some _ _).symm.trans H; with_reducible exact H2_) | with_reducible exact H | (rw [hy260]; exact H) | exact H
          have Ny260 := Aside0.mk hy260
          clear hy260
          have H' := Aside0.mk H
          clear H
          go_wp2_with (first | ((with_reducible refine gate_builtin (b := .append) (xs := #[.tmp 13, .tmp 15]) rfl ?_); at_builtin; refine Kd.R_append (Kd.int .i64) (w0 := w) w.heap.size rfl (.tmp 13) (.tmp 15) 24 3 (.int .i64 0) 8 rfl Tryz.underlying24 info3 rfl (by decide) (by omega) u5 x5_1 x6_1 [.int .i64 x6_1] (fun _ => True) (fun _ => False) rfl rfl ?aP (fun _ hk => hk.elim) ?aF ?aO ?aB ?aS ?aL ?_; (case aP => exact rfl); (case aB => exact (uB HB)); (case aF => exact (fun _ _ => trivial)); (case aO => exact (uR HO_5)); (case aS => exact (below_size (uB HB))); (case aL => have := LMc4.out; omega); intro v261 w5 ho hb hg hat; rw [← Ny260.out] at ho; have n0_ := Aside0.mk (hb); have n1_ := Aside0.mk (ho); clear HB; clear HO_5; have HB := n0_; have HO262 := n1_; clear n0_ n1_; clear ho hb hg hat))
          go_roundg k1
          case measure => have := HK1.out; omega
          case rel => exact ⟨(y260), (wrap64 (x6_1 + 1)), (by first | rfl | (simp; done) | (simp [*]; done)), H', ⟨by have := HK1.out; omega⟩, ⟨uR HO262⟩, ⟨uB HB⟩⟩
        · rw [if_neg c4] at H
          exact absurd H (by simp)
      · rw [if_neg c3] at H
        have c3b0 := decide_eq_false c3
        clear c3
        obtain rfl := Option.some.inj H
        go_wp2
        go_ret
        exact ⟨_, by first | rfl | (simp [errW_none, errW_some] <;> rfl) | (simp [*, errW_none, errW_some] <;> rfl), uR HO_5, uB HB⟩
def spec_GaussOf.f (k : Nat) (a0 : Int) (a1 : Int) : Option (List Int × Bool) := (spec_shSides.f a0 a1).bind fun t263 => (if t263 = true then ((spec_svRange.f k (wrap64 (a1 + 1)) (wrap64 (a0 + a1))).bind fun t264 => ((spec_svRange.f k 1 a0).bind fun t267 => ((spec_svGauss.f k t264 t267 (wrap64 (a0 * a1))).bind fun t270 => (some (t270, true))))) else (some (([] : List Int), false)))
theorem spec_GaussOf.mono : ∀ a0 a1 k, LeO (spec_GaussOf.f k a0 a1) (spec_GaussOf.f (k + 1) a0 a1) := by
  intro a0 a1 k
  unfold spec_GaussOf.f
  repeat' (with_reducible first | apply spec_svGauss.mono | apply spec_svRange.mono | exact LeO.refl _ | exact LeO.none _ | refine LeO.ite ?_ ?_ | refine LeO.bind ?_ (fun _ => ?_))
set_option maxHeartbeats 8000000 in
set_option maxRecDepth 100000 in
theorem spec_GaussOf.calls (k : Nat) (a0 : Int) (a1 : Int) (r1 : List Int) (r2 : Bool) (w : World) (h : spec_GaussOf.f k a0 a1 = some (r1, r2)) :
    Calls Tryz.prog 61 #[.int .i64 a0, .int .i64 a1] w fun e w' => ∃ v0_ : Value, e = .returned (.tuple #[v0_, .bool r2]) ∧ Kd.R (Kd.int .i64) 3 w' w.heap.size (fun _ => True) v0_ r1 ∧ Below w.heap.size w w' := by
  have HB := Aside0.mk (Below.refl w.heap.size w)
  have H : ((spec_shSides.f a0 a1).bind fun t263 => (if t263 = true then ((spec_svRange.f k (wrap64 (a1 + 1)) (wrap64 (a0 + a1))).bind fun t264 => ((spec_svRange.f k 1 a0).bind fun t267 => ((spec_svGauss.f k t264 t267 (wrap64 (a0 * a1))).bind fun t270 => (some (t270, true))))) else (some (([] : List Int), false)))) = some (r1, r2) := h
  clear h
  obtain ⟨t263, A3, H⟩ := bs H; (try dsimp only at H)
  by_cases c4 : t263 = true
  · subst c4
    rw [if_pos rfl] at H
    obtain ⟨t264, A5, H⟩ := bs H; (try dsimp only at H)
    obtain ⟨t267, A6, H⟩ := bs H; (try dsimp only at H)
    obtain ⟨t270, A7, H⟩ := bs H; (try dsimp only at H)
    simp only [Option.some.injEq, Prod.mk.injEq] at H
    obtain ⟨rfl, rfl⟩ := H
    go_enter Tryz.func61, Tryz.ntmps61
    go_wp2_with (first | (refine gA (some 8) Tryz.func203 #[.int .i64 a0, .int .i64 a1] ?_; (with_reducible refine (spec_shSides.calls a0 a1 true _ A3.out).mono ?_); rintro e w' ⟨rfl, ⟨nd, rfl⟩⟩; refine ⟨_, rfl, ?_⟩) | (refine gA (some 15) Tryz.func205 #[.int .i64 (wrap64 (a1 + 1)), .int .i64 (wrap64 (a0 + a1))] ?_; (with_reducible refine (spec_svRange.calls k (wrap64 (a1 + 1)) (wrap64 (a0 + a1)) t264 _ A5.out).mono ?_); rintro e w8 ⟨v265, rfl, ho0, hb⟩; refine ⟨_, rfl, ?_⟩; have n0_ := Aside0.mk (Kd.R_lower ho0 (below_size (uB HB))); have n1_ := Aside0.mk (below_step (uB HB) hb); clear HB; have HO266 := n0_; have HB := n1_; clear n0_ n1_; (try clear hb ho0)) | (refine gA (some 17) Tryz.func205 #[.int .i64 1, .int .i64 a0] ?_; (with_reducible refine (spec_svRange.calls k 1 a0 t267 _ A6.out).mono ?_); rintro e w9 ⟨v268, rfl, ho0, hb⟩; refine ⟨_, rfl, ?_⟩; have n0_ := Aside0.mk (Kd.R_elder' (uR HO266) (Kd.R_base ho0) hb); have n1_ := Aside0.mk (Kd.R_lower (Kd.R_new' ho0 (Kd.R_lt (uR HO266))) (below_size (uB HB))); have n2_ := Aside0.mk (below_step (uB HB) hb); clear HO266; clear HB; have HO266 := n0_; have HO269 := n1_; have HB := n2_; clear n0_ n1_ n2_; (try clear hb ho0); obtain ⟨Ao10, co10, eo10⟩ := Kd.R_slice HO266.out; subst eo10; obtain ⟨Ao11, co11, eo11⟩ := Kd.R_slice HO269.out; subst eo11) | (refine gA (some 21) Tryz.func204 #[.slice Ao10 t264.length co10, .slice Ao11 t267.length co11, .int .i64 (wrap64 (a0 * a1))] ?_; (with_reducible refine (spec_svGauss.calls k _ _ t264 _ _ t267 (wrap64 (a0 * a1)) t270 _ (uE HO266) ?side2 (uE HO269) ?side4 A7.out).mono ?_); (case side2 => exact (Kd.R_reads' HO266.out).2.1); (case side4 => exact (Kd.R_reads' HO269.out).2.1); rintro e w12 ⟨v271, rfl, ho0, hb⟩; refine ⟨_, rfl, ?_⟩; have n0_ := Aside0.mk (Kd.R_elder' (uR HO266) (Kd.R_base ho0) hb); have n1_ := Aside0.mk (Kd.R_elder' (uR HO269) (Kd.R_base ho0) hb); have n2_ := Aside0.mk (Kd.R_lower (Kd.R_new' (Kd.R_new' ho0 (Kd.R_lt (uR HO266))) (Kd.R_lt (uR HO269))) (below_size (uB HB))); have n3_ := Aside0.mk (below_step (uB HB) hb); clear HO266; clear HO269; clear HB; have HO266 := n0_; have HO269 := n1_; have HO272 := n2_; have HB := n3_; clear n0_ n1_ n2_ n3_; (try clear hb ho0)))
    go_ret2
    exact ⟨_, by first | rfl | (simp [errW_none, errW_some] <;> rfl) | (simp [*, errW_none, errW_some] <;> rfl), Kd.R_mono (uR HO272) (fun _ hk => trivial), uB HB⟩
  · replace c4 := Bool.eq_false_iff.mpr c4
    subst c4
    rw [if_neg (show ¬ (false = true) by decide)] at H
    simp only [Option.some.injEq, Prod.mk.injEq] at H
    obtain ⟨rfl, rfl⟩ := H
    go_enter Tryz.func61, Tryz.ntmps61
    go_wp2_with (first | (refine gA (some 8) Tryz.func203 #[.int .i64 a0, .int .i64 a1] ?_; (with_reducible refine (spec_shSides.calls a0 a1 false _ A3.out).mono ?_); rintro e w' ⟨rfl, ⟨nd, rfl⟩⟩; refine ⟨_, rfl, ?_⟩))
    go_ret2
    exact ⟨_, by first | rfl | (simp [errW_none, errW_some] <;> rfl) | (simp [*, errW_none, errW_some] <;> rfl), by first | exact Kd.R_nil _ _ _ _ _ | exact Kd.N_nil _ _ _ _ _ | exact Kd.V_nil _ _ _ _ _ | exact Kd.Q_nil _ _ _ _ _ | exact Kd.S_nil _ _ _ _ _, uB HB⟩
end Go.Proofs.YtkgngggppcmpfaaGreat.L
end
section
namespace Go.Proofs.YtkgngggppcmpfaaGreat.L
open Go.RowKit Go.Proofs.YtkgngggppcmpfaaGreatW.PrintWords Go.Proofs.YtkgngggppcmpfaaGreatW.PrintLast Go.Proofs.YtkgngggppcmpfaaGreatW.PrintMore
attribute [local go_sem] max2_int min2_int max_two min_two max_three min_three max_four min_four
set_option linter.unusedVariables false
set_option linter.unusedSimpArgs false
def slices_Clone_int_int.f (l0 : List Int) : Option (List Int) := if l0.length < 17592186044416 then some l0 else none
set_option maxHeartbeats 800000 in
set_option maxRecDepth 100000 in
theorem slices_Clone_int_int.calls (A0 : Option Addr) (c0 : Nat) (l0 : List Int) (r : List Int) (w : World) (hr0 : Kd.C (Kd.int .i64) w A0 l0.length l0) (hc0 : l0.length ≤ c0) (h : slices_Clone_int_int.f l0 = some r) :
    Calls Tryz.prog 295 #[.slice A0 l0.length c0] w fun e w' => ∃ v0_ : Value, e = .returned (v0_) ∧ Kd.R (Kd.int .i64) 3 w' w.heap.size (fun _ => True) v0_ r ∧ Below w.heap.size w w' := by
  unfold slices_Clone_int_int.f at h
  split at h
  · rename_i hl
    obtain rfl := Option.some.inj h
    clear h
    have HL := Aside0.mk hl
    have HR0 := Aside0.mk hr0
    clear hl hr0 hc0
    cases A0 with
    | none =>
      have hn : l0 = [] := by
        apply Classical.byContradiction; intro hne
        obtain ⟨_, e, _⟩ := HR0.out.2.2 (List.length_pos_iff.mpr hne)
        cases e
      subst hn
      have hs := Lib.run_eql_slice_nil (P := Tryz.prog) w 24 3 none 0 c0 0 0 Tryz.underlying24
      go_enter Tryz.func295, Tryz.ntmps295
      go_wp2
      go_ret
      exact ⟨_, rfl, Kd.R_nil _ _ _ _ _, Below.refl _ _⟩
    | some a =>
      have hs := Lib.run_eql_slice_nil (P := Tryz.prog) w 24 3 (some a) l0.length c0 0 0 Tryz.underlying24
      go_enter Tryz.func295, Tryz.ntmps295
      go_wp2_with (first | ((with_reducible refine gate_dst (N := 5) rfl ?_); refine Kd.R_lit (Kd.int .i64) _ 3 ?hg (N := 5) ?hd (xs := ([] : List Int)) (inner := []) (ok := fun _ => True) (okp := fun _ => True) ?hr ?hp (fun _ hk => hk) trivial (Below.refl _ _) (Nat.le_refl _) (by simp) ?_; (case hd => rfl); (case hg => rfl); (case hr => first | (go_simp; done) | (go_simp; rfl)); (case hp => exact (Reps.none _ _)); intro v109 w3 ho4 hb hg_ hnew_; clear hg_ hnew_; have HB := Aside0.mk hb; have HO := Aside0.mk ho4; clear hb ho4) | ((with_reducible refine gate_builtin (b := .append) (xs := #[.tmp 5, .tmp 6]) rfl ?_); at_builtin; refine Kd.R_append_rows (Kd.int .i64) (w0 := w) w.heap.size rfl (.tmp 5) (.tmp 6) 24 3 (.int .i64 0) 8 rfl Tryz.underlying24 info3 rfl (by decide) (by omega) v109 [] l0 _ _ _ (fun _ => True) (fun _ => False) rfl rfl ?aO ?aR (fun _ _ h => h) (fun _ h => h.elim) ?aF ?aB ?aS ?aL ?_; (case aR => exact (Kd.C_below HR0.out HB.out)); (case aB => exact HB.out); (case aF => exact (fun _ _ => trivial)); (case aO => exact HO.out); (case aS => exact HB.out.size); (case aL => have := HL.out; simp; omega); intro v112 w5 ho hb hg hat; have HB2 := Aside0.mk hb; have HO2 := Aside0.mk ho; clear ho hb hg hat))
      go_ret
      exact ⟨_, rfl, by simpa using HO2.out, HB2.out⟩
  · exact absurd h (by simp)
def slices_Sort.ren : Go.Shelf.Ren := ⟨fun | 5 => 296 | 8 => 338 | 7 => 337 | 19 => 361 | 20 => 362 | 10 => 352 | 11 => 353 | 12 => 354 | 13 => 355 | 14 => 356 | 15 => 357 | 16 => 358 | 17 => 359 | 18 => 360 | 30 => 364 | 31 => 365 | 32 => 366 | 33 => 367 | 34 => 368 | 35 => 369 | 40 => 370 | n => n, fun | 23 => 24 | 25 => 3 | 3 => 3 | 32 => 149 | 22 => 24 | 0 => 0 | 44 => 163 | 46 => 92 | 4 => 4 | 36 => 172 | 35 => 171 | 41 => 29 | 5 => 5 | 9 => 9 | 53 => 176 | 57 => 180 | 63 => 182 | 64 => 49 | n => n, fun | n => n⟩
theorem slices_Sort.lays : Go.Proofs.SlLaysM.n5 Tryz.prog slices_Sort.ren where
  mixed := by kernel_rfl
  f5 := ⟨ "slices.Sort[[]int,int]", by decide, Tryz.func296.trans (congrArg some (by kernel_rfl))⟩
  f7 := ⟨ "slices.pdqsortOrdered[int]", by decide, Tryz.func337.trans (congrArg some (by kernel_rfl))⟩
  f8 := Tryz.func338.trans (congrArg some (by kernel_rfl))
  f10 := ⟨ "slices.insertionSortOrdered[int]", by decide, Tryz.func352.trans (congrArg some (by kernel_rfl))⟩
  f11 := ⟨ "slices.heapSortOrdered[int]", by decide, Tryz.func353.trans (congrArg some (by kernel_rfl))⟩
  f12 := ⟨ "slices.breakPatternsOrdered[int]", by decide, Tryz.func354.trans (congrArg some (by kernel_rfl))⟩
  f13 := ⟨ "slices.choosePivotOrdered[int]", by decide, Tryz.func355.trans (congrArg some (by kernel_rfl))⟩
  f14 := ⟨ "slices.reverseRangeOrdered[int]", by decide, Tryz.func356.trans (congrArg some (by kernel_rfl))⟩
  f15 := ⟨ "slices.partialInsertionSortOrdered[int]", by decide, Tryz.func357.trans (congrArg some (by kernel_rfl))⟩
  f16 := ⟨ "cmp.Less[int]", by decide, Tryz.func358.trans (congrArg some (by kernel_rfl))⟩
  f17 := ⟨ "slices.partitionEqualOrdered[int]", by decide, Tryz.func359.trans (congrArg some (by kernel_rfl))⟩
  f18 := ⟨ "slices.partitionOrdered[int]", by decide, Tryz.func360.trans (congrArg some (by kernel_rfl))⟩
  f19 := Tryz.func361.trans (congrArg some (by kernel_rfl))
  f20 := Tryz.func362.trans (congrArg some (by kernel_rfl))
  f30 := ⟨ "slices.siftDownOrdered[int]", by decide, Tryz.func364.trans (congrArg some (by kernel_rfl))⟩
  f31 := Tryz.func365.trans (congrArg some (by kernel_rfl))
  f32 := Tryz.func366.trans (congrArg some (by kernel_rfl))
  f33 := ⟨ "slices.medianAdjacentOrdered[int]", by decide, Tryz.func367.trans (congrArg some (by kernel_rfl))⟩
  f34 := ⟨ "slices.medianOrdered[int]", by decide, Tryz.func368.trans (congrArg some (by kernel_rfl))⟩
  f35 := ⟨ "cmp.isNaN[int]", by decide, Tryz.func369.trans (congrArg some (by kernel_rfl))⟩
  f40 := ⟨ "slices.order2Ordered[int]", by decide, Tryz.func370.trans (congrArg some (by kernel_rfl))⟩
  t0 := Tryz.underlying0
  a0 := Tryz.isAgg0
  z0 := Tryz.sizeOf0
  v0 := Tryz.zeroValue0
  t3 := Tryz.underlying3
  a3 := Tryz.isAgg3
  z3 := Tryz.sizeOf3
  v3 := Tryz.zeroValue3
  t4 := Tryz.underlying4
  a4 := Tryz.isAgg4
  z4 := Tryz.sizeOf4
  v4 := Tryz.zeroValue4
  t5 := Tryz.underlying5
  a5 := Tryz.isAgg5
  z5 := Tryz.sizeOf5
  v5 := Tryz.zeroValue5
  t9 := Tryz.underlying9
  a9 := Tryz.isAgg9
  z9 := Tryz.sizeOf9
  v9 := Tryz.zeroValue9
  t22 := Tryz.underlying24
  a22 := Tryz.isAgg24
  z22 := Tryz.sizeOf24
  v22 := Tryz.zeroValue24
  t23 := Tryz.underlying24
  a23 := Tryz.isAgg24
  z23 := Tryz.sizeOf24
  v23 := Tryz.zeroValue24
  t25 := Tryz.underlying3
  a25 := Tryz.isAgg3
  z25 := Tryz.sizeOf3
  v25 := Tryz.zeroValue3
  t32 := Tryz.underlying149
  a32 := Tryz.isAgg149
  z32 := Tryz.sizeOf149
  v32 := Tryz.zeroValue149
  t35 := Tryz.underlying171
  a35 := Tryz.isAgg171
  z35 := Tryz.sizeOf171
  v35 := Tryz.zeroValue171
  t36 := Tryz.underlying172
  a36 := Tryz.isAgg172
  z36 := Tryz.sizeOf172
  v36 := Tryz.zeroValue172
  t41 := Tryz.underlying29
  a41 := Tryz.isAgg29
  z41 := Tryz.sizeOf29
  v41 := Tryz.zeroValue29
  t44 := Tryz.underlying163
  a44 := Tryz.isAgg163
  z44 := Tryz.sizeOf163
  v44 := Tryz.zeroValue163
  t46 := Tryz.underlying92
  a46 := Tryz.isAgg92
  z46 := Tryz.sizeOf92
  v46 := Tryz.zeroValue92
  t53 := Tryz.underlying176
  a53 := Tryz.isAgg176
  z53 := Tryz.sizeOf176
  v53 := Tryz.zeroValue176
  t57 := Tryz.underlying180
  a57 := Tryz.isAgg180
  z57 := Tryz.sizeOf180
  v57 := Tryz.zeroValue180
  t63 := Tryz.underlying182
  a63 := Tryz.isAgg182
  z63 := Tryz.sizeOf182
  v63 := Tryz.zeroValue182
  t64 := Tryz.underlying49
  a64 := Tryz.isAgg49
  z64 := Tryz.sizeOf49
  v64 := Tryz.zeroValue49
theorem slices_Sort.heap {w : World} {g e : Nat} {cur : Array Value} (h : w.heap[g]? = some (.cells cur e (0, 0))) (f : Array Value → Array Value) : (Go.Sort.mapBlock w g f).heap[g]? = some (.cells (f cur) e (0, 0)) := by
  unfold Go.Sort.mapBlock
  show (w.heap.modify g (Go.Sort.onCells f))[g]? = _
  rw [Array.getElem?_modify, if_pos rfl, h]
  rfl
theorem slices_Sort.far {w : World} {g k : Nat} (hk : k ≠ g) (f : Array Value → Array Value) : (Go.Sort.mapBlock w g f).heap[k]? = w.heap[k]? := by
  unfold Go.Sort.mapBlock
  show (w.heap.modify g (Go.Sort.onCells f))[k]? = _
  rw [Array.getElem?_modify, if_neg (fun e => hk e.symm)]
theorem slices_Sort.hold {g n c base e : Nat} {ok : Nat → Prop} {w : World} {xs : List Int} (h : (Kd.int .i64).R e w base ok (.slice (some ⟨g, 0, none⟩) n c) xs) : Go.Sort.Holds (Value.int .i64) w g 0 xs.toArray := by
  obtain ⟨hn, _, _⟩ := Kd.R_reads' h
  subst hn
  intro j hj
  have hj' : j < xs.length := by simpa using hj
  obtain ⟨h1, h2⟩ := Kd.R_celln (0 : Int) h (j : Int) (by omega) (by omega)
  rw [Int.toNat_natCast] at h1 h2
  rw [Nat.zero_add]
  refine ⟨?_, h2⟩
  rw [h1]
  simp [rdOf, List.getD_eq_getElem?_getD, hj']
theorem slices_Sort.put {g n c base e : Nat} {ok : Nat → Prop} {w : World} {xs zs : List Int} (h : (Kd.int .i64).R e w base ok (.slice (some ⟨g, 0, none⟩) n c) xs) (hz : zs.length = xs.length) :
    (Kd.int .i64).R e (Go.Sort.putRow (Value.int .i64) w g 0 zs.toArray) base ok (.slice (some ⟨g, 0, none⟩) n c) zs := by
  obtain ⟨hn, _, _⟩ := Kd.R_reads' h
  subst hn
  have ho := Kd.own_of_R h
  obtain ⟨hl, hor⟩ := ho
  rcases hor with ⟨e1, _⟩ | ⟨g', cap, cur, e1, hb, hh, hnc, hcm, hcs, ht⟩
  · cases e1
  · injection e1 with e2 e3 e4
    injection e2 with e2
    injection e2 with e2
    subst e2 e4
    have hown : (Go.Sort.putRow (Value.int .i64) w g 0 zs.toArray).ownsRow base e 1 (.slice (some ⟨g, 0, none⟩) xs.length c) zs.length (encs (Value.int .i64) zs) := by
      rw [hz]
      refine ⟨by rw [encs_length]; omega, .inr ⟨g, c, Go.Sort.putCells (Value.int .i64) 0 zs.toArray cur, rfl, hb, slices_Sort.heap hh _, hnc, hcm, ?_, ?_⟩⟩
      · unfold Go.Sort.putCells
        rw [Array.size_mapIdx]
        exact hcs
      · refine List.ext_getElem? fun j => ?_
        rw [List.getElem?_take]
        by_cases hj : j < xs.length * 1
        · rw [if_pos hj]
          have hjc : j < cur.size := by omega
          have hjz : j < zs.length := by omega
          unfold Go.Sort.putCells encs
          rw [Array.getElem?_toList, Array.getElem?_mapIdx, Array.getElem?_eq_getElem hjc, List.getElem?_map, List.getElem?_eq_getElem hjz]
          simp [hjz]
        · rw [if_neg hj, List.getElem?_eq_none (by rw [encs_length]; omega)]
    rw [hz] at hown
    rw [← hz] at hown ⊢
    exact Kd.R_of_own hown h.1
theorem slices_Sort.grown {d : Kd Int} {base e : Nat} {ok : Nat → Prop} {v : Value} {w : World} {xs : List Int} (h : d.R e w base ok v xs) (os : Array Obj) : d.R e (Go.Sort.grow w os) base ok v xs := by
  refine Kd.R_step h fun k _ hk => ?_
  unfold Go.Sort.grow
  show (w.heap ++ os)[k]? = _
  rw [Array.getElem?_append_left hk]
theorem slices_Sort.below {B g n : Nat} {w0 w : World} (h : Below B w0 w) (hg : B ≤ g) (hB : B ≤ w.heap.size) (d : Array Int) (os : Array Obj) : Below B w0 (Go.Sort.grow (Go.Sort.putRow (Value.int .i64) (Go.Sort.ahead w n) g 0 d) os) := by
  refine ⟨h.os, h.tape, h.output, ?_, fun k hk => ?_⟩
  · refine Nat.le_trans h.size ?_
    show _ ≤ ((w.heap.modify g _) ++ os).size
    rw [Array.size_append, Array.size_modify]
    omega
  · rw [← h.block k hk]
    show ((w.heap.modify g (Go.Sort.onCells _)) ++ os)[k]? = _
    rw [Array.getElem?_append_left (by rw [Array.size_modify]; omega), Array.getElem?_modify, if_neg (by omega)]
def impl_sorted.sort (l : List Int) : List Int := l.mergeSort fun x y => decide (x ≤ y)
set_option maxHeartbeats 800000 in
set_option maxRecDepth 100000 in
theorem slices_Sort.calls (v : Value) (l : List Int) (w0 w : World) (hb : Below w0.heap.size w0 w) (hr : Kd.R (Kd.int .i64) 3 w w0.heap.size (fun _ => True) v l) (hl : l.length ≤ 17592186044416) :
    Calls Tryz.prog 296 #[v] w fun e w' => e = .returned (.tuple #[]) ∧ Kd.R (Kd.int .i64) 3 w' w0.heap.size (fun _ => True) v (impl_sorted.sort l) ∧ Below w0.heap.size w0 w' := by
  cases l with
  | nil =>
    obtain ⟨A, c, rfl, _, _⟩ := Kd.R_reads hr
    refine (Go.Proofs.AnyM.slices_Sort_int_none slices_Sort.lays A c w).mono ?_
    rintro e w' ⟨rfl, rfl⟩
    have e1 : impl_sorted.sort [] = [] := by unfold impl_sorted.sort; simp
    rw [e1]
    exact ⟨rfl, hr, hb⟩
  | cons x l =>
    obtain ⟨g, c, rfl, gb, gl, cl, hg⟩ := Kd.R_form hr (by simp)
    refine (Go.Proofs.AnyM.slices_Sort_int slices_Sort.lays g 0 c (x :: l) w (slices_Sort.hold hr) gl (by omega)).mono ?_
    rintro e w' ⟨rfl, n, os, rfl⟩
    have h1 : Kd.R (Kd.int .i64) 3 (Go.Sort.ahead w n) w0.heap.size (fun _ => True) (.slice (some ⟨g, 0, none⟩) (x :: l).length c) (x :: l) := Kd.R_step hr fun _ _ _ => rfl
    exact ⟨rfl, slices_Sort.grown (slices_Sort.put h1 (by rw [List.length_mergeSort])) os, slices_Sort.below hb gb hb.size _ os⟩
def impl_sorted.f (l0 : List Int) : Option (List Int) := if l0.length < 17592186044416 then some (impl_sorted.sort l0) else none
set_option maxHeartbeats 800000 in
set_option maxRecDepth 100000 in
theorem impl_sorted.calls (A0 : Option Addr) (c0 : Nat) (l0 : List Int) (r : List Int) (w : World) (hr0 : Kd.C (Kd.int .i64) w A0 l0.length l0) (hc0 : l0.length ≤ c0) (h : impl_sorted.f l0 = some r) :
    Calls Tryz.prog 189 #[.slice A0 l0.length c0] w fun e w' => ∃ v0_ : Value, e = .returned (v0_) ∧ Kd.R (Kd.int .i64) 3 w' w.heap.size (fun _ => True) v0_ r ∧ Below w.heap.size w w' := by
  unfold impl_sorted.f at h
  split at h
  · rename_i hl
    obtain rfl := Option.some.inj h
    have HL := Aside0.mk hl
    have HR := Aside0.mk hr0
    have HC := Aside0.mk hc0
    have HF := Aside0.mk (show slices_Clone_int_int.f l0 = some l0 from if_pos hl)
    clear h hl hr0 hc0
    go_enter Tryz.func189, Tryz.ntmps189
    go_wp2_with fail
    refine (slices_Clone_int_int.calls A0 c0 l0 l0 _ HR.out HC.out HF.out).mono ?_
    rintro e w1 ⟨v1, rfl, hR, hb⟩
    have R1 := Aside0.mk hR
    have B1 := Aside0.mk hb
    clear hR hb
    go_wp2_with fail
    refine (slices_Sort.calls v1 l0 w _ B1.out R1.out (by have := HL.out; omega)).mono ?_
    rintro e w2 ⟨rfl, hR, hb⟩
    have R2 := Aside0.mk hR
    have B2 := Aside0.mk hb
    clear hR hb
    go_wp2
    go_ret
    exact ⟨_, rfl, R2.out, B2.out⟩
  · cases h
end Go.Proofs.YtkgngggppcmpfaaGreat.L
end
section
namespace Go.Proofs.YtkgngggppcmpfaaGreat.L
open Go.RowKit Go.Proofs.YtkgngggppcmpfaaGreatW.PrintWords Go.Proofs.YtkgngggppcmpfaaGreatW.PrintLast Go.Proofs.YtkgngggppcmpfaaGreatW.PrintMore Go.Proofs.YtkgngggppcmpfaaGreat.X
attribute [local go_sem] max2_int min2_int max_two min_two max_three min_three max_four min_four
set_option linter.unusedVariables false
set_option linter.unusedSimpArgs false
def impl_stabilizers.l0 : Nat → Int → List Int → List Int → Int → Int → Option (List Int)
  | 0, _, _, _, _, _ => none
  | k + 1, x1, x5, x9, x10, x11 => if x11 < x10 then (if 0 ≤ x11 then (if x11 < (x9.length : Int) then (if (rd x9 x11) = 0 then (none) else (if x5.length < 17592186044416 then (impl_stabilizers.l0 k x1 (x5 ++ [wrap64 (Int.tdiv x1 (rd x9 x11))]) x9 x10 (wrap64 (x11 + 1))) else (none))) else (none)) else (none)) else ((impl_sorted.f x5).bind fun t399 => (some t399))
def impl_stabilizers.f (k : Nat) (l0 : List Int) (a1 : Int) : Option (List Int) := impl_stabilizers.l0 k a1 (([] : List Int)) l0 (l0.length : Int) 0
theorem impl_stabilizers.mono_l : ∀ k, (∀ y0 y1 y2 y3 y4, LeO (impl_stabilizers.l0 k y0 y1 y2 y3 y4) (impl_stabilizers.l0 (k + 1) y0 y1 y2 y3 y4))
  | 0 => fun _ _ _ _ _ r h => by simp [impl_stabilizers.l0] at h
  | k + 1 => by
    have ih0 := impl_stabilizers.mono_l k
    · intro y0 y1 y2 y3 y4
      unfold impl_stabilizers.l0
      repeat' first
      | (with_reducible exact ih0 _ _ _ _ _)
      | (with_reducible exact LeO.refl _)
      | (with_reducible exact LeO.none _)
      | (with_reducible refine LeO.ite ?_ ?_)
      | (with_reducible refine LeO.bind ?_ (fun _ => ?_))
      | exact ih0 _ _ _ _ _
      | exact LeO.none _
      | refine LeO.ite ?_ ?_
      | refine LeO.bind ?_ (fun _ => ?_)
theorem impl_stabilizers.mono : ∀ a0 a1 k, LeO (impl_stabilizers.f k a0 a1) (impl_stabilizers.f (k + 1) a0 a1) := by
  intro a0 a1 k
  have ih0 := impl_stabilizers.mono_l k
  unfold impl_stabilizers.f
  repeat' (with_reducible first | apply ih0 | exact LeO.refl _ | exact LeO.none _ | refine LeO.ite ?_ ?_ | refine LeO.bind ?_ (fun _ => ?_))
set_option maxHeartbeats 8000000 in
set_option maxRecDepth 100000 in
theorem impl_stabilizers.calls (k : Nat) (A0 : Option Addr) (c0 : Nat) (l0 : List Int) (a1 : Int) (r : List Int) (w : World) (hr0 : Kd.C (Kd.int .i64) w A0 l0.length l0) (hc0 : l0.length ≤ c0) (h : impl_stabilizers.f k l0 a1 = some r) :
    Calls Tryz.prog 207 #[.slice A0 l0.length c0, .int .i64 a1] w fun e w' => ∃ v0_ : Value, e = .returned (v0_) ∧ Kd.R (Kd.int .i64) 3 w' w.heap.size (fun _ => True) v0_ r ∧ Below w.heap.size w w' := by
  have HR0 := Aside0.mk hr0
  have HC0 := Aside0.mk hc0
  clear hr0 hc0
  have HB := Aside0.mk (Below.refl w.heap.size w)
  have H : (impl_stabilizers.l0 k a1 (([] : List Int)) l0 (l0.length : Int) 0) = some r := h
  clear h
  obtain ⟨y392, hy392⟩ : ∃ y_ : List Int, y_ = (([] : List Int)) := ⟨_, rfl⟩
  replace H : (impl_stabilizers.l0 k a1 y392 l0 (l0.length : Int) 0) = some r := by first | (rw [hy392]; with_reducible exact H) | (have H2_ := (Option.bind_some _ _).symm.trans H; rw [hy392]; with_reducible exact H2_) | (have H2_ := (Option.bind_some _ _).symm.trans H; with_reducible exact H2_) | with_reducible exact H | (rw [hy392]; exact H) | exact H
  have Ny392 := Aside0.mk hy392
  clear hy392
  have H' := Aside0.mk H
  clear H
  go_enter Tryz.func207, Tryz.ntmps207
  go_wp2_with (first | ((with_reducible refine gate_dst (N := 8) rfl ?_); refine Kd.R_lit (Kd.int .i64) _ 3 ?hg (N := 8) ?hd (xs := ([] : List Int)) (inner := []) (ok := fun _ => True) (okp := fun _ => True) ?hr ?hp (fun _ hk => hk) trivial (Below.refl _ _) (Nat.le_refl _) (by simp) ?_; (case hd => rfl); (case hg => rfl); (case hr => first | (go_simp; done) | (go_simp; rfl)); (case hp => exact (Reps.none _ _)); intro v393 w3 ho4 hb hg_ hnew_; clear hg_ hnew_; (first | rw [← Ny392.out] at ho4 | (simp only [Int.reduceToNat] at ho4; rw [← Ny392.out] at ho4)); have n0_ := Aside0.mk (Kd.R_lower ho4 (below_size (uB HB))); have n1_ := Aside0.mk (below_step (uB HB) hb); clear HB; have HO394 := n0_; have HB := n1_; clear n0_ n1_; clear hb ho4))
  go_loopg [5, 11] k (fun kq v5 v11 w' => ∃ (x5_1 : List Int) (x11_1 : Int), v11 = .int .i64 x11_1 ∧ Aside0 (impl_stabilizers.l0 kq a1 x5_1 l0 (l0.length : Int) x11_1 = some r) ∧ Aside0 (kq ≤ k) ∧ Aside0 (Kd.R (Kd.int .i64) 3 w' w.heap.size (fun _ => True) v5 x5_1) ∧ Aside0 (Below w.heap.size w w'))
  case atStart => exact ⟨(y392), (0), (by first | rfl | (simp; done) | (simp [*]; done)), H', ⟨Nat.le_refl _⟩, ⟨uR HO394⟩, ⟨uB HB⟩⟩
  case round =>
    clear H'
    skip
    obtain ⟨x5_1, x11_1, rfl, HA, HK1, HO_5, HB⟩ := hrel
    cases gk with
    | zero => exact absurd HA.out (by simp [impl_stabilizers.l0])
    | succ k1 =>
      have H := HA.out
      clear HA
      simp only [impl_stabilizers.l0] at H
      by_cases c5 : x11_1 < (l0.length : Int)
      · rw [if_pos c5] at H
        have c5b0 := decide_eq_true c5
        clear c5
        by_cases c6 : 0 ≤ x11_1
        · rw [if_pos c6] at H
          have c6b0 := decide_eq_true c6
          clear c6
          by_cases c7 : x11_1 < (l0.length : Int)
          · rw [if_pos c7] at H
            have c7b0 := decide_eq_true c7
            clear c7
            by_cases c8 : (rd l0 x11_1) = 0
            · rw [if_pos c8] at H
              exact absurd H (by simp)
            · rw [if_neg c8] at H
              have c8b0 : ((rd l0 x11_1) == 0) = false := beq_eq_false_iff_ne.mpr c8
              have c8b1 : ((rd l0 x11_1) != 0) = true := bne_iff_ne.mpr c8
              by_cases c9 : x5_1.length < 17592186044416
              · rw [if_pos c9] at H
                have LMc9 := Aside0.mk c9
                clear c9
                obtain ⟨y396, hy396⟩ : ∃ y_ : List Int, y_ = (x5_1 ++ [wrap64 (Int.tdiv a1 (rd l0 x11_1))]) := ⟨_, rfl⟩
                replace H : (impl_stabilizers.l0 k1 a1 y396 l0 (l0.length : Int) (wrap64 (x11_1 + 1))) = some r := by first | (rw [hy396]; with_reducible exact H) | (have H2_ := (Option.bind_some _ _).symm.trans H; rw [hy396]; with_reducible exact H2_) | (have H2_ := (Option.bind_some _ _).symm.trans H; with_reducible exact H2_) | with_reducible exact H | (rw [hy396]; exact H) | exact H
                have Ny396 := Aside0.mk hy396
                clear hy396
                have H' := Aside0.mk H
                clear H
                have p395 : 0 ≤ (x11_1 : Int) := of_decide_eq_true (by first | (with_reducible assumption) | assumption)
                have q395 : x11_1 < (l0.length : Int) := of_decide_eq_true (by first | (with_reducible assumption) | assumption)
                obtain ⟨ad395, e395, hx395_0⟩ := Kd.at_int HR0.out x11_1 p395 q395
                cases e395
                replace hx395_0 := (HB.out.cell (World.block_lt_of_cell? w _ hx395_0)).trans hx395_0
                replace p395 := eq_true p395
                replace q395 := eq_true q395
                go_wp2_with (first | ((with_reducible refine gate_builtin (b := .append) (xs := #[.tmp 15, .tmp 19]) rfl ?_); at_builtin; refine Kd.R_append (Kd.int .i64) (w0 := w) w.heap.size rfl (.tmp 15) (.tmp 19) 24 3 (.int .i64 0) 8 rfl Tryz.underlying24 info3 rfl (by decide) (by omega) u5 x5_1 (wrap64 (Int.tdiv a1 (rd l0 x11_1))) [.int .i64 (wrap64 (Int.tdiv a1 (rd l0 x11_1)))] (fun _ => True) (fun _ => False) rfl rfl ?aP (fun _ hk => hk.elim) ?aF ?aO ?aB ?aS ?aL ?_; (case aP => exact rfl); (case aB => exact (uB HB)); (case aF => exact (fun _ _ => trivial)); (case aO => exact (uR HO_5)); (case aS => exact (below_size (uB HB))); (case aL => have := LMc9.out; omega); intro v397 w10 ho hb hg hat; rw [← Ny396.out] at ho; have n0_ := Aside0.mk (hb); have n1_ := Aside0.mk (ho); clear HB; clear HO_5; have HB := n0_; have HO398 := n1_; clear n0_ n1_; clear ho hb hg hat))
                go_roundg k1
                case measure => have := HK1.out; omega
                case rel => exact ⟨(y396), (wrap64 (x11_1 + 1)), (by first | rfl | (simp; done) | (simp [*]; done)), H', ⟨by have := HK1.out; omega⟩, ⟨uR HO398⟩, ⟨uB HB⟩⟩
              · rw [if_neg c9] at H
                exact absurd H (by simp)
          · rw [if_neg c7] at H
            exact absurd H (by simp)
        · rw [if_neg c6] at H
          exact absurd H (by simp)
      · rw [if_neg c5] at H
        have c5b0 := decide_eq_false c5
        clear c5
        obtain ⟨t399, A11, H⟩ := bs H; (try dsimp only at H)
        obtain rfl := Option.some.inj H
        obtain ⟨Ao12, co12, eo12⟩ := Kd.R_slice HO_5.out
        subst eo12
        go_wp2_with (first | (refine gA (some 23) Tryz.func189 #[.slice Ao12 x5_1.length co12] ?_; (with_reducible refine (impl_sorted.calls _ _ x5_1 t399 _ (uE HO_5) ?side2 A11.out).mono ?_); (case side2 => exact (Kd.R_reads' HO_5.out).2.1); rintro e w13 ⟨v400, rfl, ho0, hb⟩; refine ⟨_, rfl, ?_⟩; have n0_ := Aside0.mk (Kd.R_elder' (uR HO_5) (Kd.R_base ho0) hb); have n1_ := Aside0.mk (Kd.R_lower (Kd.R_new' ho0 (Kd.R_lt (uR HO_5))) (below_size (uB HB))); have n2_ := Aside0.mk (below_step (uB HB) hb); clear HO_5; clear HB; have HO_5 := n0_; have HO401 := n1_; have HB := n2_; clear n0_ n1_ n2_; (try clear hb ho0)))
        go_ret
        exact ⟨_, by first | rfl | (simp [errW_none, errW_some] <;> rfl) | (simp [*, errW_none, errW_some] <;> rfl), Kd.R_mono (uR HO401) (fun _ hk => trivial), uB HB⟩
def impl_Poset_bottom.l0 : Nat → Int → Int → List Int → Int → Int → List Int → Option (Int)
  | 0, _, _, _, _, _, _ => none
  | k + 1, x1, x5, x9, x10, x11, x403000 => if x11 < x10 then (if 0 ≤ x11 then (if x11 < (x9.length : Int) then (if 0 ≤ (rd x9 x11) then (if (rd x9 x11) < (x403000.length : Int) then (if (Go.bits .and .i64 (rd x403000 (rd x9 x11)) x1) = 0 then (impl_Poset_bottom.l0 k x1 (Go.bits .or .i64 x5 (shl .i64 1 (rd x9 x11))) x9 x10 (wrap64 (x11 + 1)) x403000) else (impl_Poset_bottom.l0 k x1 x5 x9 x10 (wrap64 (x11 + 1)) x403000)) else (none)) else (none)) else (none)) else (none)) else (some x5)
def impl_Poset_bottom.f (k : Nat) (l0_0 : List Int) (a1 : Int) : Option (Int) := (impl_items.f k a1).bind fun t403 => (impl_Poset_bottom.l0 k a1 0 t403 (t403.length : Int) 0 l0_0)
theorem impl_Poset_bottom.mono_l : ∀ k, (∀ y0 y1 y2 y3 y4 y5, LeO (impl_Poset_bottom.l0 k y0 y1 y2 y3 y4 y5) (impl_Poset_bottom.l0 (k + 1) y0 y1 y2 y3 y4 y5))
  | 0 => fun _ _ _ _ _ _ r h => by simp [impl_Poset_bottom.l0] at h
  | k + 1 => by
    have ih0 := impl_Poset_bottom.mono_l k
    · intro y0 y1 y2 y3 y4 y5
      unfold impl_Poset_bottom.l0
      repeat' first
      | (with_reducible exact ih0 _ _ _ _ _ _)
      | (with_reducible exact impl_items.mono _ _)
      | (with_reducible exact LeO.refl _)
      | (with_reducible exact LeO.none _)
      | (with_reducible refine LeO.ite ?_ ?_)
      | (with_reducible refine LeO.bind ?_ (fun _ => ?_))
      | exact ih0 _ _ _ _ _ _
      | exact impl_items.mono _ _
      | exact LeO.none _
      | refine LeO.ite ?_ ?_
      | refine LeO.bind ?_ (fun _ => ?_)
theorem impl_Poset_bottom.mono : ∀ a0 a1 k, LeO (impl_Poset_bottom.f k a0 a1) (impl_Poset_bottom.f (k + 1) a0 a1) := by
  intro a0 a1 k
  have ih0 := impl_Poset_bottom.mono_l k
  unfold impl_Poset_bottom.f
  repeat' (with_reducible first | apply ih0 | apply impl_items.mono | exact LeO.refl _ | exact LeO.none _ | refine LeO.ite ?_ ?_ | refine LeO.bind ?_ (fun _ => ?_))
set_option maxHeartbeats 8000000 in
set_option maxRecDepth 100000 in
theorem impl_Poset_bottom.calls (k : Nat) (A0_0 : Option Addr) (c0_0 : Nat) (l0_0 : List Int) (a1 : Int) (r : Int) (w : World) (hr0_0 : Kd.C (Kd.int .i64) w A0_0 l0_0.length l0_0) (hc0_0 : l0_0.length ≤ c0_0) (h : impl_Poset_bottom.f k l0_0 a1 = some r) :
    Calls Tryz.prog 307 #[.agg #[.slice A0_0 l0_0.length c0_0], .int .i64 a1] w fun e w' => e = .returned (.int .i64 r) ∧ Below w.heap.size w w' := by
  have hu26 := Tryz.underlying26
  have HR0_0 := Aside0.mk hr0_0
  have HC0_0 := Aside0.mk hc0_0
  clear hr0_0 hc0_0
  have HB := Aside0.mk (Below.refl w.heap.size w)
  have H : ((impl_items.f k a1).bind fun t403 => (impl_Poset_bottom.l0 k a1 0 t403 (t403.length : Int) 0 l0_0)) = some r := h
  clear h
  obtain ⟨t403, A3, H⟩ := bs H; (try dsimp only at H)
  have H' := Aside0.mk H
  clear H
  go_enter Tryz.func307, Tryz.ntmps307
  go_wp2_with (first | (refine bE (N := 2) (cs := #[.slice A0_0 l0_0.length c0_0]) (t := 26) ?_; intro gb402 hg w4 hbox hb; have n0_ := Aside0.mk (below_step (uB HB) hb); have n1_ := Aside0.mk (hbox); have n2_ := Aside0.mk ((by rw [hg]; exact (below_size (uB HB)) : w.heap.size ≤ gb402)); have n3_ := Aside0.mk ((by rw [hg]; exact (below_size (uB HB)) : w.heap.size ≤ gb402)); clear HB; have HB := n0_; have BK402 := n1_; have GW402 := n2_; have GE402 := n3_; clear n0_ n1_ n2_ n3_; clear hb hbox hg) | (refine gA (some 9) Tryz.func277 #[.int .i64 a1] ?_; (with_reducible refine (impl_items.calls k a1 t403 _ A3.out).mono ?_); rintro e w5 ⟨v404, rfl, ho0, hb⟩; refine ⟨_, rfl, ?_⟩; have n0_ := Aside0.mk (Kd.R_lower ho0 (below_size (vB HB))); have n1_ := Aside0.mk (blk_below (uK BK402) hb); have n2_ := Aside0.mk (below_step (vB HB) hb); clear BK402; clear HB; have HO405 := n0_; have BK402 := n1_; have HB := n2_; clear n0_ n1_ n2_; (try clear hb ho0); obtain ⟨Ao6, co6, eo6⟩ := Kd.R_slice HO405.out; subst eo6))
  go_loopg [5, 11] k (fun kq v5 v11 w' => ∃ (x5_1 : Int) (x11_1 : Int), v5 = .int .i64 x5_1 ∧ v11 = .int .i64 x11_1 ∧ Aside0 (impl_Poset_bottom.l0 kq a1 x5_1 t403 (t403.length : Int) x11_1 l0_0 = some r) ∧ Aside0 (kq ≤ k) ∧ Aside0 (Kd.R (Kd.int .i64) 3 w' w.heap.size (fun _ => True) (.slice Ao6 t403.length co6) t403) ∧ Aside0 (w'.heap[gb402]? = some (.cells #[(.slice A0_0 l0_0.length c0_0)] 26 (0, 0))) ∧ Aside0 (Below w.heap.size w w'))
  case atStart => exact ⟨(0), (0), (by first | rfl | (simp; done) | (simp [*]; done)), (by first | rfl | (simp; done) | (simp [*]; done)), H', ⟨Nat.le_refl _⟩, ⟨uR HO405⟩, ⟨uK BK402⟩, ⟨(vB HB)⟩⟩
  case round =>
    clear H'
    skip
    obtain ⟨x5_1, x11_1, rfl, rfl, HA, HK1, HO_9, BK402, HB⟩ := hrel
    cases gk with
    | zero => exact absurd HA.out (by simp [impl_Poset_bottom.l0])
    | succ k1 =>
      have H := HA.out
      clear HA
      simp only [impl_Poset_bottom.l0] at H
      by_cases c7 : x11_1 < (t403.length : Int)
      · rw [if_pos c7] at H
        have c7b0 := decide_eq_true c7
        clear c7
        by_cases c8 : 0 ≤ x11_1
        · rw [if_pos c8] at H
          have c8b0 := decide_eq_true c8
          clear c8
          by_cases c9 : x11_1 < (t403.length : Int)
          · rw [if_pos c9] at H
            have c9b0 := decide_eq_true c9
            clear c9
            by_cases c10 : 0 ≤ (rd t403 x11_1)
            · rw [if_pos c10] at H
              have c10b0 := decide_eq_true c10
              clear c10
              by_cases c11 : (rd t403 x11_1) < (l0_0.length : Int)
              · rw [if_pos c11] at H
                have c11b0 := decide_eq_true c11
                clear c11
                by_cases c12 : (Go.bits .and .i64 (rd l0_0 (rd t403 x11_1)) a1) = 0
                · rw [if_pos c12] at H
                  have c12b0 : ((Go.bits .and .i64 (rd l0_0 (rd t403 x11_1)) a1) == 0) = true := beq_iff_eq.mpr c12
                  have c12b1 : ((Go.bits .and .i64 (rd l0_0 (rd t403 x11_1)) a1) != 0) = false := bne_eq_false_iff_eq.mpr c12
                  clear c12
                  have c13b0 := eq_true (of_decide_eq_true (by first | (with_reducible assumption) | assumption) : 0 ≤ (rd t403 x11_1))
                  obtain ⟨ji14, hji14⟩ : ∃ j_ : Int, (shl .i64 1 (rd t403 x11_1)) = j_ := ⟨_, rfl⟩
                  replace H : (impl_Poset_bottom.l0 k1 a1 (Go.bits .or .i64 x5_1 (ji14)) t403 (t403.length : Int) (wrap64 (x11_1 + 1)) l0_0) = some r := by first | (rw [hji14] at H; exact H) | (simp only [hji14] at H ⊢; exact H)
                  have hji14_ : (IntKind.i64.wrap (1 * 2 ^ min (rd t403 x11_1).toNat 64)) = ji14 := hji14
                  have hji14z : (rd t403 x11_1) ≤ 64 → (IntKind.i64.wrap (1 * 2 ^ (rd t403 x11_1).toNat)) = ji14 := shl_small hji14
                  have hji14u : (IntKind.i64.wrap (2 ^ min (rd t403 x11_1).toNat 64)) = ji14 := by have h_ := hji14_; rw [Int.one_mul] at h_; exact h_
                  have hji14v : (rd t403 x11_1) ≤ 64 → (IntKind.i64.wrap (2 ^ (rd t403 x11_1).toNat)) = ji14 := fun hle_ => by have h_ := hji14z hle_; rw [Int.one_mul] at h_; exact h_
                  have hji14y : (wrap64 (1 * 2 ^ min (rd t403 x11_1).toNat 64)) = ji14 := (i64_w _).symm.trans hji14_
                  have hji14x : (rd t403 x11_1) ≤ 64 → (wrap64 (1 * 2 ^ (rd t403 x11_1).toNat)) = ji14 := fun h_ => (i64_w _).symm.trans (hji14z h_)
                  have H' := Aside0.mk H
                  clear H
                  have p406 : 0 ≤ (x11_1 : Int) := of_decide_eq_true (by first | (with_reducible assumption) | assumption)
                  have q406 : x11_1 < (t403.length : Int) := of_decide_eq_true (by first | (with_reducible assumption) | assumption)
                  obtain ⟨ad406, e406, hx406_0⟩ := Kd.at_int (Kd.R_reads' HO_9.out).2.2 x11_1 p406 q406
                  cases e406
                  replace p406 := eq_true p406
                  replace q406 := eq_true q406
                  have hcz15_0 := bC BK402
                  have hfz15_0 := blk_frozen BK402.out 0
                  have p407 : 0 ≤ ((rd t403 x11_1) : Int) := of_decide_eq_true (by first | (with_reducible assumption) | assumption)
                  have q407 : (rd t403 x11_1) < (l0_0.length : Int) := of_decide_eq_true (by first | (with_reducible assumption) | assumption)
                  obtain ⟨ad407, e407, hx407_0⟩ := Kd.at_int HR0_0.out (rd t403 x11_1) p407 q407
                  cases e407
                  replace hx407_0 := (HB.out.cell (World.block_lt_of_cell? w _ hx407_0)).trans hx407_0
                  replace p407 := eq_true p407
                  replace q407 := eq_true q407
                  go_wp2
                  go_roundg k1
                  case measure => have := HK1.out; omega
                  case rel => exact ⟨(Go.bits .or .i64 x5_1 (ji14)), (wrap64 (x11_1 + 1)), (by first | rfl | (simp; done) | (simp only [← hji14] <;> (first | rfl | simp)) | (simp [*]; done)), (by first | rfl | (simp; done) | (simp [*]; done)), H', ⟨by have := HK1.out; omega⟩, ⟨uR HO_9⟩, ⟨uK BK402⟩, ⟨(vB HB)⟩⟩
                · rw [if_neg c12] at H
                  have c12b0 : ((Go.bits .and .i64 (rd l0_0 (rd t403 x11_1)) a1) == 0) = false := beq_eq_false_iff_ne.mpr c12
                  have c12b1 : ((Go.bits .and .i64 (rd l0_0 (rd t403 x11_1)) a1) != 0) = true := bne_iff_ne.mpr c12
                  have H' := Aside0.mk H
                  clear H
                  have p406 : 0 ≤ (x11_1 : Int) := of_decide_eq_true (by first | (with_reducible assumption) | assumption)
                  have q406 : x11_1 < (t403.length : Int) := of_decide_eq_true (by first | (with_reducible assumption) | assumption)
                  obtain ⟨ad406, e406, hx406_0⟩ := Kd.at_int (Kd.R_reads' HO_9.out).2.2 x11_1 p406 q406
                  cases e406
                  replace p406 := eq_true p406
                  replace q406 := eq_true q406
                  have hcz16_0 := bC BK402
                  have hfz16_0 := blk_frozen BK402.out 0
                  have p407 : 0 ≤ ((rd t403 x11_1) : Int) := of_decide_eq_true (by first | (with_reducible assumption) | assumption)
                  have q407 : (rd t403 x11_1) < (l0_0.length : Int) := of_decide_eq_true (by first | (with_reducible assumption) | assumption)
                  obtain ⟨ad407, e407, hx407_0⟩ := Kd.at_int HR0_0.out (rd t403 x11_1) p407 q407
                  cases e407
                  replace hx407_0 := (HB.out.cell (World.block_lt_of_cell? w _ hx407_0)).trans hx407_0
                  replace p407 := eq_true p407
                  replace q407 := eq_true q407
                  go_wp2
                  go_roundg k1
                  case measure => have := HK1.out; omega
                  case rel => exact ⟨(x5_1), (wrap64 (x11_1 + 1)), (by first | rfl | (simp; done) | (simp [*]; done)), (by first | rfl | (simp; done) | (simp [*]; done)), H', ⟨by have := HK1.out; omega⟩, ⟨uR HO_9⟩, ⟨uK BK402⟩, ⟨(vB HB)⟩⟩
              · rw [if_neg c11] at H
                exact absurd H (by simp)
            · rw [if_neg c10] at H
              exact absurd H (by simp)
          · rw [if_neg c9] at H
            exact absurd H (by simp)
        · rw [if_neg c8] at H
          exact absurd H (by simp)
      · rw [if_neg c7] at H
        have c7b0 := decide_eq_false c7
        clear c7
        obtain rfl := Option.some.inj H
        go_wp2
        go_ret
        exact ⟨by first | rfl | (simp [errW_none, errW_some] <;> rfl) | (simp [*, errW_none, errW_some] <;> rfl), (vB HB)⟩
def impl_Poset_row.f (k : Nat) (l0_0 : List Int) (a1 : Int) : Option (Int) := (impl_Poset_all.f l0_0).bind fun t409 => ((impl_Poset_bottom.f k l0_0 (Go.bits .andNot .i64 t409 a1)).bind fun t410 => ((impl_Poset_close.f k l0_0 t410).bind fun t411 => (some t411)))
theorem impl_Poset_row.mono : ∀ a0 a1 k, LeO (impl_Poset_row.f k a0 a1) (impl_Poset_row.f (k + 1) a0 a1) := by
  intro a0 a1 k
  unfold impl_Poset_row.f
  repeat' (with_reducible first | apply impl_Poset_bottom.mono | apply impl_Poset_close.mono | exact LeO.refl _ | exact LeO.none _ | refine LeO.ite ?_ ?_ | refine LeO.bind ?_ (fun _ => ?_))
def impl_Poset_row.T1 : Bool × List (List Nat × List Nat) := (true, [([], []), ([], []), ([], []), ([2], [2]), ([], []), ([3, 4], [3, 4]), ([1, 5, 3], [1, 5]), ([0, 6, 6], [0, 6]), ([7, 7, 0, 1, 2, 3, 4, 5, 6, 7], [7])])
def impl_Poset_row.B1 : List Nat := [0, 0, 0, 4, 0, 28, 62, 127, 255]
theorem impl_Poset_row.tab1 : rtab .any (opsOf Tryz.f235 1) = impl_Poset_row.T1 := by kernel_rfl
theorem impl_Poset_row.bits1 : waitsOk impl_Poset_row.T1.2 impl_Poset_row.B1 = true := by kernel_rfl
set_option maxHeartbeats 8000000 in
set_option maxRecDepth 100000 in
theorem impl_Poset_row.calls (k : Nat) (A0_0 : Option Addr) (c0_0 : Nat) (l0_0 : List Int) (a1 : Int) (r : Int) (w : World) (hr0_0 : Kd.C (Kd.int .i64) w A0_0 l0_0.length l0_0) (hc0_0 : l0_0.length ≤ c0_0) (h : impl_Poset_row.f k l0_0 a1 = some r) :
    Calls Tryz.prog 235 #[.agg #[.slice A0_0 l0_0.length c0_0], .int .i64 a1] w fun e w' => e = .returned (.int .i64 r) ∧ Below w.heap.size w w' := by
  have hu26 := Tryz.underlying26
  have HR0_0 := Aside0.mk hr0_0
  have HC0_0 := Aside0.mk hc0_0
  clear hr0_0 hc0_0
  have HB := Aside0.mk (Below.refl w.heap.size w)
  have H : ((impl_Poset_all.f l0_0).bind fun t409 => ((impl_Poset_bottom.f k l0_0 (Go.bits .andNot .i64 t409 a1)).bind fun t410 => ((impl_Poset_close.f k l0_0 t410).bind fun t411 => (some t411)))) = some r := h
  clear h
  obtain ⟨t409, A3, H⟩ := bs H; (try dsimp only at H)
  obtain ⟨t410, A4, H⟩ := bs H; (try dsimp only at H)
  obtain ⟨t411, A5, H⟩ := bs H; (try dsimp only at H)
  obtain rfl := Option.some.inj H
  go_enter Tryz.func235, Tryz.ntmps235
  try go_wp2_with (first | (refine bE (N := 2) (cs := #[.slice A0_0 l0_0.length c0_0]) (t := 26) ?_; intro gb408 hg w6 hbox hb; have n0_ := Aside0.mk (below_step (uB HB) hb); have n1_ := Aside0.mk (hbox); have n2_ := Aside0.mk ((by rw [hg]; exact (below_size (uB HB)) : w.heap.size ≤ gb408)); have n3_ := Aside0.mk ((by rw [hg]; exact (below_size (uB HB)) : w.heap.size ≤ gb408)); clear HB; have HB := n0_; have BK408 := n1_; have GW408 := n2_; have GE408 := n3_; clear n0_ n1_ n2_ n3_; clear hb hbox hg))
  have n0_ := Aside0.mk (blk_drew BK408.out)
  have n1_ := Aside0.mk (below_drew1 HB.out)
  clear BK408
  clear HB
  have BK408 := n0_
  have HB := n1_
  clear n0_ n1_
  refine sU (n := 9) (S := fun w' => w'.cell? ⟨gb408, 0, none⟩ = some (.slice A0_0 l0_0.length c0_0)) (ds := []) ((blk_cell BK408.out 0).trans rfl) (fun hHeld => ?_); refine with_tabW impl_Poset_row.tab1 impl_Poset_row.bits1 (fun HT_ HW_ => ?_)
  generalize w6.drew = w7 at BK408 HB hHeld ⊢
  refine pU 4 9 ?_
  refine tU 0 5 hHeld ?_
  refine tU 1 6 hHeld ?_
  refine tU 2 7 hHeld ?_
  refine oU 3 (some 8) fun K hK => ?_
  refine goes_ Tryz.func290 (by kernel_rfl) rfl #[.agg #[.slice A0_0 l0_0.length c0_0]] (by rfl) rfl rfl (by (try simp only [List.map_toArray, List.map_cons, List.map_nil]); first | done | rfl | (simp only [List.length_drop, List.length_take]; rfl)) ?_
  with_reducible refine (impl_Poset_all.calls _ _ l0_0 t409 _ ?side1 ?side2 A3.out).mono ?_
  (case side1 => repeat (first | exact (Kd.C_below HR0_0.out HB.out) | (with_reducible refine Kd.C_alloc ?_ _) | (with_reducible refine Kd.C_drewN ?_ _) | (with_reducible refine Kd.C_drew ?_)))
  (case side2 => exact HC0_0.out)
  rintro e w8 ⟨rfl, hb⟩
  refine ⟨_, rfl, ?_⟩
  have n0_ := Aside0.mk (blk_below (uK BK408) hb)
  have n1_ := Aside0.mk (below_step (vB HB) hb)
  clear BK408
  clear HB
  have BK408 := n0_
  have HB := n1_
  clear n0_ n1_
  skip
  skip
  skip
  skip
  refine hK.out _ _ ((blk_cell BK408.out 0).trans rfl) (fun hHeld => ?_)
  clear hK K
  refine nU 8 ?_
  refine pU 5 10 ?_
  refine oU 6 (some 11) fun K hK => ?_
  refine goes_ Tryz.func307 (by kernel_rfl) rfl #[.agg #[.slice A0_0 l0_0.length c0_0], .int .i64 (Go.bits .andNot .i64 t409 a1)] (by rfl) rfl rfl (by (try simp only [List.map_toArray, List.map_cons, List.map_nil]); first | done | rfl | (simp only [List.length_drop, List.length_take]; rfl)) ?_
  with_reducible refine (impl_Poset_bottom.calls k _ _ l0_0 (Go.bits .andNot .i64 t409 a1) t410 _ ?side1 ?side2 A4.out).mono ?_
  (case side1 => repeat (first | exact (Kd.C_below HR0_0.out HB.out) | (with_reducible refine Kd.C_alloc ?_ _) | (with_reducible refine Kd.C_drewN ?_ _) | (with_reducible refine Kd.C_drew ?_)))
  (case side2 => exact HC0_0.out)
  rintro e w9 ⟨rfl, hb⟩
  refine ⟨_, rfl, ?_⟩
  have n0_ := Aside0.mk (blk_below (uK BK408) hb)
  have n1_ := Aside0.mk (below_step (vB HB) hb)
  clear BK408
  clear HB
  have BK408 := n0_
  have HB := n1_
  clear n0_ n1_
  skip
  skip
  skip
  skip
  refine hK.out _ _ ((blk_cell BK408.out 0).trans rfl) (fun hHeld => ?_)
  clear hK K
  refine nU 11 ?_
  refine oU 7 (some 12) fun K hK => ?_
  refine goes_ Tryz.func283 (by kernel_rfl) rfl #[.agg #[.slice A0_0 l0_0.length c0_0], .int .i64 t410] (by rfl) rfl rfl (by (try simp only [List.map_toArray, List.map_cons, List.map_nil]); first | done | rfl | (simp only [List.length_drop, List.length_take]; rfl)) ?_
  with_reducible refine (impl_Poset_close.calls k _ _ l0_0 t410 t411 _ ?side1 ?side2 A5.out).mono ?_
  (case side1 => repeat (first | exact (Kd.C_below HR0_0.out HB.out) | (with_reducible refine Kd.C_alloc ?_ _) | (with_reducible refine Kd.C_drewN ?_ _) | (with_reducible refine Kd.C_drew ?_)))
  (case side2 => exact HC0_0.out)
  rintro e w10 ⟨rfl, hb⟩
  refine ⟨_, rfl, ?_⟩
  have n0_ := Aside0.mk (blk_below (uK BK408) hb)
  have n1_ := Aside0.mk (below_step (vB HB) hb)
  clear BK408
  clear HB
  have BK408 := n0_
  have HB := n1_
  clear n0_ n1_
  skip
  skip
  skip
  skip
  refine hK.out _ _ ((blk_cell BK408.out 0).trans rfl) (fun hHeld => ?_)
  clear hK K
  refine nU 12 ?_
  refine pU 8 4 ?_
  refine dU ?_
  try go_wp2
  go_ret
  exact ⟨by first | rfl | (simp [errW_none, errW_some] <;> rfl) | (simp [*, errW_none, errW_some] <;> rfl), (vB HB)⟩
end Go.Proofs.YtkgngggppcmpfaaGreat.L
end
section
namespace Go.Proofs.YtkgngggppcmpfaaGreat.L
open Go.RowKit Go.Proofs.YtkgngggppcmpfaaGreatW.PrintWords Go.Proofs.YtkgngggppcmpfaaGreatW.PrintLast Go.Proofs.YtkgngggppcmpfaaGreatW.PrintMore
attribute [local go_sem] max2_int min2_int max_two min_two max_three min_three max_four min_four
set_option linter.unusedVariables false
set_option linter.unusedSimpArgs false
def impl_cycles_int.Fvb (P : Program) (g : Nat) (bd lb : Array Value) (x r : Value) (w : World) : Prop :=
  ∀ W, Below w.heap.size w W → Calls P g (bd.push x ++ lb) W fun e w' => e = .returned r ∧ Below W.heap.size W w'
theorem impl_cycles_int.Fvb.calls {P : Program} {g : Nat} {bd lb : Array Value} {x r : Value} {w W : World} (h : impl_cycles_int.Fvb P g bd lb x r w) (hb : Below w.heap.size w W) :
    Calls P g (bd.push x ++ lb) W fun e w' => e = .returned r ∧ Below W.heap.size W w' := h W hb
theorem impl_cycles_int.bool_inv {H : Type} {P : Program} {e : TypeId} (he : P.underlying e = some .bool) {v : Value} {z : DataW H × List MemPlace} (h : plainElem P e v = some z) : ∃ c, v = .bool c ∧ z = (.lit (.bool c), []) := by
  unfold plainElem at h
  rw [he] at h
  cases v <;> simp at h
  exact ⟨_, rfl, h.symm⟩
theorem impl_cycles_int.look {H : Type} {P : Program} (w : World) {ops : Array Oper} {rest : List Oper} {o : Oper} {a : Act} {Q : Exit → Act → World → Prop}
    (hg : o.guard = none) (m x : Operand) (t : TypeId) (hop : o.op = Op.lookup t m x false)
    (k e : TypeId) (K : Go.Maps.Keyed P k) (ht : P.underlying t = some (.map k e)) (he : P.underlying e = some .bool) (hz : (zeroValue e).run P w = .ok (.bool false) w) (b n : Nat) (D : DataW H)
    (hm : a.eval m = .map (some b)) (hown : w.ownsMap P k (plainElem P e) b n D) (key : Value) (kl : Lit) (hx : a.eval x = key) (hkey : keyOf P k key = some kl) (r : Bool) (hr : D.atKey kl (.lit (.bool false)) = .lit (.bool r))
    (hK : wpList P ops Q rest (a.put o.dst (.bool r)) w) :
    wpList P ops Q (o :: rest) a w := by
  refine wpList_plain hg fun K' hK' => ?_
  obtain ⟨v, ps, hrun, hv⟩ := hown.lookup K ht hz (plainElem_bool he false) hkey
  obtain ⟨c, rfl, hc⟩ := impl_cycles_int.bool_inv he hv
  simp only [Prod.mk.injEq] at hc
  rw [hr] at hc
  have hcr : r = c := by have := hc.1; injection this with this; injection this
  subst hcr
  unfold Oper.wp
  simp [execOp, hop, hm, hx, hrun, Result.andThen]
  exact hK' _ _ hK
def impl_cycles_int.own : Nat → (Int → Option Int) → List Int → List Int → Int → Option (List Int × List Int)
  | 0, _, _, _, _ => none
  | k + 1, m, met, own, x => if (Lit.int .i64 x).wf = true then (if met.contains x = true then some (met, own) else if met.length < 17592186044416 then (if own.length < 17592186044416 then (m x).bind fun y => impl_cycles_int.own k m (met ++ [x]) (own ++ [x]) y else none) else none) else none
def impl_cycles_int.go (k : Nat) (m : Int → Option Int) : List Int → List Int → List (List Int) → Option (List (List Int))
  | [], _, out => some out
  | x :: l, met, out => if (Lit.int .i64 x).wf = true then (if met.contains x = true then impl_cycles_int.go k m l met out else (impl_cycles_int.own k m met [] x).bind fun r => if out.length < 5864062014805 then impl_cycles_int.go k m l r.1 (out ++ [r.2]) else none) else none
def impl_cycles_int.f (k : Nat) (m : Int → Option Int) (l0 : List Int) : Option (List (List Int)) := impl_cycles_int.go k m l0 [] []
theorem impl_cycles_int.own_mono {m m' : Int → Option Int} (hm : ∀ x, LeO (m x) (m' x)) : ∀ k met own x, LeO (impl_cycles_int.own k m met own x) (impl_cycles_int.own (k + 1) m' met own x)
  | 0, _, _, _ => fun r h => by cases h
  | k + 1, met, own, x => by
    rw [impl_cycles_int.own, impl_cycles_int.own]
    exact LeO.ite (LeO.ite (LeO.refl _) (LeO.ite (LeO.ite (LeO.bind (hm _) fun y => impl_cycles_int.own_mono hm k _ _ _) (LeO.refl _)) (LeO.refl _))) (LeO.refl _)
theorem impl_cycles_int.go_mono {m m' : Int → Option Int} (hm : ∀ x, LeO (m x) (m' x)) (k : Nat) : ∀ l met out, LeO (impl_cycles_int.go k m l met out) (impl_cycles_int.go (k + 1) m' l met out)
  | [], met, out => LeO.refl _
  | x :: l, met, out => by
    rw [impl_cycles_int.go, impl_cycles_int.go]
    exact LeO.ite (LeO.ite (impl_cycles_int.go_mono hm k l _ _) (LeO.bind (impl_cycles_int.own_mono hm k _ _ _) fun r => LeO.ite (impl_cycles_int.go_mono hm k l _ _) (LeO.refl _))) (LeO.refl _)
theorem impl_cycles_int.mono {m m' : Int → Option Int} (hm : ∀ x, LeO (m x) (m' x)) (k : Nat) (l : List Int) : LeO (impl_cycles_int.f k m l) (impl_cycles_int.f (k + 1) m' l) := impl_cycles_int.go_mono hm k l _ _
theorem impl_cycles_int.zeroE (w : World) : (zeroValue 4).run Tryz.prog w = .ok (.bool false) w := by kernel_rfl
theorem impl_cycles_int.law : Go.Maps.Keyed Tryz.prog 3 := Go.Maps.int_keyed Tryz.underlying3
theorem impl_cycles_int.put_at {D : DataW Unit} {met : List Int} {x : Int} (hD : Go.Maps.IsMap D) (h : ∀ y, D.atKey (.int .i64 y) (.lit (.bool false)) = .lit (.bool (met.contains y))) (y : Int) :
    (D.put (.int .i64 x) (.lit (.bool true))).atKey (.int .i64 y) (.lit (.bool false)) = .lit (.bool ((met ++ [x]).contains y)) := by
  by_cases e : y = x
  · subst e
    rw [Go.Maps.atKey_put_same hD (show WideAt.IsKeyLit (.int .i64 y) from trivial)]
    simp
  · rw [Go.Maps.atKey_put_other (fun he => e (by injection he)), h y]
    simp [e]
open Go.Proofs.YtkgngggppcmpfaaGreat.X in
set_option maxHeartbeats 1600000 in
set_option maxRecDepth 100000 in
theorem impl_cycles_int.calls (k : Nat) (A0 : Option Addr) (c0 : Nat) (l0 : List Int) (gF : Nat) (bdF lbF : Array Value) (m : Int → Option Int) (r : List (List Int)) (w : World) (eg : ∀ args w, (callFunc gF args).run Tryz.prog w = .ok (.enter gF args) w)
    (hr0 : Kd.C (Kd.int .i64) w A0 l0.length l0) (hl : l0.length ≤ 9223372036854775806) (hp : ∀ x y, m x = some y → impl_cycles_int.Fvb Tryz.prog gF bdF lbF (.int .i64 x) (.int .i64 y) w) (h : impl_cycles_int.f k m l0 = some r) :
    Calls Tryz.prog 240 #[.slice A0 l0.length c0, .func (.func gF) bdF lbF] w fun e w' => ∃ v0_ : Value, e = .returned v0_ ∧ Kd.S (Kd.slice 3 (Kd.int .i64)) 24 w' w.heap.size (fun _ => True) v0_ r ∧ Below w.heap.size w w' := by
  have HR := Aside0.mk hr0
  have HL := Aside0.mk hl
  have HP := Aside0.mk hp
  have HF := Aside0.mk h
  have HB := Aside0.mk (Below.refl w.heap.size w)
  clear hr0 hl hp h
  have hmm := @run_makeMap Tryz.prog
  go_enter Tryz.func240, Tryz.ntmps240
  go_wp2_with (first | ((with_reducible refine gate_dst (N := 11) rfl ?_); refine Kd.S_lit (Kd.slice 3 (Kd.int .i64)) _ 24 ?hg (N := 11) ?hd (xs := ([] : List (List Int))) (inner := []) (ok := fun _ => True) (okp := fun _ => True) ?hr ?hp (fun _ hk => hk) trivial (Below.refl _ _) (Nat.le_refl _) (by simp) ?_; (case hd => rfl); (case hg => rfl); (case hr => first | (go_simp; done) | (go_simp; rfl)); (case hp => exact (Reps.none _ _)); intro v11 w2 ho hb hg_ hnew_; have HO := Aside0.mk ho; have B2 := Aside0.mk hb; clear ho hb hg_ hnew_))
  obtain ⟨W0, hW0⟩ : ∃ W0, W0 = w2.alloc (.map #[] 0) := ⟨_, rfl⟩
  rw [← hW0]
  have M0 := Aside0.mk (show W0.ownsMap (H := Unit) Tryz.prog 3 (plainElem Tryz.prog 4) w2.heap.size 0 (.map []) by rw [hW0]; exact World.ownsMap_made _ _ _ _)
  have R0 := Aside0.mk (show Kd.S (Kd.slice 3 (Kd.int .i64)) 24 W0 w.heap.size (fun k => k ≠ w2.heap.size) v11 [] by rw [hW0]; exact Kd.S_alloc (Kd.S_mono (Kd.S_bound HO.out) (fun k hk => by have := hk.2.2.1; omega)) _)
  have B3 := Aside0.mk (show Below w.heap.size w W0 by rw [hW0]; exact below_alloc B2.out _)
  have GB := Aside0.mk (show w.heap.size ≤ w2.heap.size from B2.out.size)
  generalize w2.heap.size = b at M0 R0 GB ⊢
  clear hW0 HO B2 hmm
  go_loopw [5, 15] (fun v5 v15 wr => ∃ (q : Nat) (met : List Int) (out : List (List Int)) (D : DataW Unit), v15 = .int .i64 q ∧ q ≤ l0.length ∧ Aside0 (impl_cycles_int.go k m (l0.drop q) met out = some r) ∧ Aside0 (wr.ownsMap Tryz.prog 3 (plainElem Tryz.prog 4) b met.length D) ∧ Aside0 (∀ y, D.atKey (.int .i64 y) (.lit (.bool false)) = .lit (.bool (met.contains y))) ∧ Aside0 (Kd.S (Kd.slice 3 (Kd.int .i64)) 24 wr w.heap.size (fun k => k ≠ b) v5 out) ∧ Aside0 (Below w.heap.size w wr)) (fun _ v15 _ => l0.length - (intOf v15).toNat)
  case atStart => exact ⟨0, [], [], _, rfl, Nat.zero_le _, ⟨by rw [List.drop_zero]; exact HF.out⟩, M0, ⟨fun y => rfl⟩, R0, B3⟩
  case round =>
    obtain ⟨q, met, out, D, rfl, hq, HG, HM, HD, HO, HB⟩ := hrel
    by_cases hlt : q < l0.length
    · have hG := HG.out
      rw [List.drop_eq_getElem_cons hlt, impl_cycles_int.go] at hG
      split at hG
      · rename_i hwf
        have WF := Aside0.mk hwf
        obtain ⟨ad, e1, hx0⟩ := Kd.at_int (Kd.C_below HR.out HB.out) (q : Int) (by omega) (by omega)
        rw [Int.toNat_natCast] at hx0
        cases e1
        have hx : wr.cell? (ad.add q) = some (.int .i64 l0[q]) := by rw [hx0, show rd l0 (q : Int) = l0[q] by simp [rd, List.getD_eq_getElem?_getD, hlt]]
        have e2 : wrap64 ((q : Int) + 1) = ((q + 1 : Nat) : Int) := by have := HL.out; unfold wrap64; omega
        obtain ⟨x, hxe⟩ : ∃ x, x = l0[q] := ⟨_, rfl⟩
        rw [← hxe] at hx hG WF
        clear hxe hwf hx0
        have p1 : 0 ≤ ((q : Nat) : Int) := by omega
        have q1 : ((q : Nat) : Int) < (l0.length : Int) := by omega
        by_cases hc : met.contains x = true
        · rw [if_pos hc] at hG
          have HC := Aside0.mk hc
          have HG2 := Aside0.mk hG
          clear hc hG HG
          go_wp2_with (first | (at_lookup; refine impl_cycles_int.look _ rfl _ _ 151 rfl 3 4 impl_cycles_int.law Tryz.underlying151 Tryz.underlying4 (impl_cycles_int.zeroE _) b met.length D rfl HM.out _ (.int .i64 x) rfl (Go.Maps.keyOf_int_mk Tryz.underlying3 WF.out) true (by rw [HD.out, HC.out]) ?_))
          go_roundw
          case rel => exact ⟨q + 1, met, out, D, by first | rfl | go_num, by omega, HG2, HM, HD, HO, HB⟩
          case measure => (try simp only [e2]); exact (Nat.sub_lt_sub_left (by omega) (Nat.lt_succ_self q) : l0.length - (q + 1) < l0.length - q)
        · rw [if_neg hc] at hG
          obtain ⟨rr, hrr, hG⟩ := Option.bind_eq_some_iff.mp hG
          split at hG
          · rename_i hol
            have HOL := Aside0.mk hol
            have HC := Aside0.mk (show met.contains x = false by simpa using hc)
            have HG2 := Aside0.mk hG
            have HRR := Aside0.mk hrr
            have F5 := Aside0.mk (show ∀ k_, wr.heap.size ≤ k_ → k_ ≠ b ∧ some k_ ≠ (u5 : Value).ownBlock from fun k_ hk => ⟨by have := HM.out.lt; omega, fun e => by have := Kd.S_lt HO.out k_ e.symm; omega⟩)
            clear hol hc hG hrr HG
            go_wp2_with (first | (at_lookup; refine impl_cycles_int.look _ rfl _ _ 151 rfl 3 4 impl_cycles_int.law Tryz.underlying151 Tryz.underlying4 (impl_cycles_int.zeroE _) b met.length D rfl HM.out _ (.int .i64 x) rfl (Go.Maps.keyOf_int_mk Tryz.underlying3 WF.out) false (by rw [HD.out, HC.out]) ?_) | ((with_reducible refine gate_dst (N := 22) rfl ?_); refine Kd.R_lit (Kd.int .i64) w.heap.size 3 ?hg (N := 22) ?hd (xs := ([] : List Int)) (inner := []) (ok := fun k_ => k_ ≠ b ∧ some k_ ≠ (u5 : Value).ownBlock) (okp := fun k_ => k_ ≠ b ∧ some k_ ≠ (u5 : Value).ownBlock) ?hr ?hp (fun _ hk => hk) (F5.out _ (Nat.le_refl _)) HB.out HB.out.size (by simp) ?_; (case hd => rfl); (case hg => rfl); (case hr => first | (go_simp; done) | (go_simp; rfl)); (case hp => exact (Reps.none _ _)); intro v22 w4 ho hb hg hnew; have HW := Aside0.mk ho; have B4 := Aside0.mk hb; have HM4 := Aside0.mk (HM.out.kept hg (by simp)); have HO4 := Aside0.mk (show Kd.S (Kd.slice 3 (Kd.int .i64)) 24 w4 w.heap.size (fun k_ => k_ ≠ b ∧ some k_ ≠ (v22 : Value).ownBlock) u5 out from Kd.S_grown (Kd.S_mono (Kd.S_bound HO.out) (fun k_ hk => ⟨hk.1, fun e => by obtain ⟨b', h1, h2⟩ := hnew; rw [h1] at e; injection e with e; have := hk.2.2.1; omega⟩)) hg (fun _ _ => by simp)); clear ho hb hg hnew HM HO))
            have LO := Aside0.mk (fun (k_ : Nat) (e : (u5 : Value).ownBlock = some k_) => Kd.S_lt HO4.out k_ e)
            have BL := Aside0.mk HM4.out.lt
            have SZ4 := Aside0.mk (Nat.le_refl w4.heap.size)
            go_loopg [9, 10] k (fun kq v9 v10 wi => ∃ (met1 own : List Int) (y : Int) (D1 : DataW Unit), v10 = .int .i64 y ∧ Aside0 (impl_cycles_int.own kq m met1 own y = some rr) ∧ Aside0 (kq ≤ k) ∧ Aside0 (wi.ownsMap Tryz.prog 3 (plainElem Tryz.prog 4) b met1.length D1) ∧ Aside0 (∀ y, D1.atKey (.int .i64 y) (.lit (.bool false)) = .lit (.bool (met1.contains y))) ∧ Aside0 (Kd.S (Kd.slice 3 (Kd.int .i64)) 24 wi w.heap.size (fun k_ => k_ ≠ b ∧ some k_ ≠ (v9 : Value).ownBlock) u5 out) ∧ Aside0 (Kd.R (Kd.int .i64) 3 wi w.heap.size (fun k_ => k_ ≠ b ∧ some k_ ≠ (u5 : Value).ownBlock) v9 own) ∧ Aside0 (w4.heap.size ≤ wi.heap.size) ∧ Aside0 (Below w.heap.size w wi))
            case atStart => exact ⟨met, [], x, D, rfl, HRR, ⟨Nat.le_refl _⟩, HM4, HD, HO4, HW, SZ4, B4⟩
            case round =>
              clear HM4 HD HO4 HW SZ4 B4
              obtain ⟨met1, own, y, D1, rfl, HA, HK1, HM, HD, HO, HW, SZ, HB⟩ := hrel
              cases gk with
              | zero => exact absurd HA.out (by simp [impl_cycles_int.own])
              | succ k1 =>
                have hA := HA.out
                rw [impl_cycles_int.own] at hA
                split at hA
                · rename_i hwf
                  have WF2 := Aside0.mk hwf
                  clear hwf HA
                  by_cases hc : met1.contains y = true
                  · rw [if_pos hc] at hA
                    have hrr := Option.some.inj hA
                    subst hrr
                    have HC2 := Aside0.mk hc
                    clear hA hc
                    obtain ⟨Ao, co, eo⟩ := Kd.R_slice HW.out
                    subst eo
                    go_wp2_with (first | (at_lookup; refine impl_cycles_int.look _ rfl _ _ 151 rfl 3 4 impl_cycles_int.law Tryz.underlying151 Tryz.underlying4 (impl_cycles_int.zeroE _) b met1.length D1 rfl HM.out _ (.int .i64 y) rfl (Go.Maps.keyOf_int_mk Tryz.underlying3 WF2.out) true (by rw [HD.out, HC2.out]) ?_) | ((with_reducible refine gate_builtin (b := .append) (xs := #[.tmp 37, .tmp 39]) rfl ?_); at_builtin; refine Kd.S_append (Kd.slice 3 (Kd.int .i64)) (w0 := w) w.heap.size rfl (.tmp 37) (.tmp 39) 40 24 (.slice none 0 0) 24 rfl Tryz.underlying40 info24 rfl (by decide) (by omega) u5 out own _ (fun k_ => k_ ≠ b) (fun k_ => some k_ = (Value.slice Ao own.length co).ownBlock) rfl rfl ?aP (fun k_ hk => HW.out.1 k_ hk.symm) ?aF ?aO ?aB ?aS ?aL ?_; (case aP => exact Kd.M_row (Kd.R_tight rfl HW.out)); (case aF => exact fun k_ hk => by have := HM.out.lt; omega); (case aO => exact HO.out); (case aB => exact HB.out); (case aS => exact HB.out.size); (case aL => have := HOL.out; omega); intro v40 w8 ho hb hg hat; have HO8 := Aside0.mk ho; have B8 := Aside0.mk hb; have HM8 := Aside0.mk (HM.out.kept hg (Kd.S_away HO.out (fun _ hk => hk.1))); clear ho hb hg hat))
                    go_roundw
                    case rel => exact ⟨q + 1, met1, out ++ [own], D1, by first | rfl | go_num, by omega, HG2, HM8, HD, HO8, B8⟩
                    case measure => (try simp only [e2]); exact (Nat.sub_lt_sub_left (by omega) (Nat.lt_succ_self q) : l0.length - (q + 1) < l0.length - q)
                  · rw [if_neg hc] at hA
                    split at hA
                    · rename_i hml
                      split at hA
                      · rename_i hol2
                        obtain ⟨z, hz, hA⟩ := Option.bind_eq_some_iff.mp hA
                        have HC2 := Aside0.mk (show met1.contains y = false by simpa using hc)
                        have HA2 := Aside0.mk hA
                        have HZ := Aside0.mk (HP.out y z hz)
                        have HML := Aside0.mk hml
                        have HOL2 := Aside0.mk hol2
                        clear hc hA hz hml hol2
                        go_wp2_with (first | (at_lookup; refine impl_cycles_int.look _ rfl _ _ 151 rfl 3 4 impl_cycles_int.law Tryz.underlying151 Tryz.underlying4 (impl_cycles_int.zeroE _) b met1.length D1 rfl HM.out _ (.int .i64 y) rfl (Go.Maps.keyOf_int_mk Tryz.underlying3 WF2.out) false (by rw [HD.out, HC2.out]) ?_) | (at_mapUpdate; refine wpList_mapUpdate_own _ rfl _ _ _ 151 rfl 3 4 impl_cycles_int.law Tryz.underlying151 (plainElem Tryz.prog 4) b met1.length D1 rfl HM.out (by have := HML.out; unfold maxLen; omega) _ _ (.int .i64 y) rfl rfl (Go.Maps.keyOf_int_mk Tryz.underlying3 WF2.out) (.lit (.bool true)) [] (plainElem_bool Tryz.underlying4 true) ?_; intro w5 hm5 hg5; have HM5 := Aside0.mk hm5; have HO5 := Aside0.mk (Kd.S_grown HO.out hg5 (fun k_ hk => by intro e; injection e with e; exact hk.1 e)); have HW5 := Aside0.mk (Kd.R_grown HW.out hg5 (fun k_ hk => by intro e; injection e with e; exact hk.1 e)); have B5 := Aside0.mk (pw_below_grown HB.out (some b) HB.out.size hg5 (fun k_ e => by injection e with e; rw [← e]; exact GB.out)); have SZ5 := Aside0.mk (Nat.le_trans SZ.out hg5.size); clear hm5 hg5) | ((with_reducible refine gate_builtin (b := .append) (xs := #[.tmp 33, .tmp 35]) rfl ?_); at_builtin; refine Kd.R_append (Kd.int .i64) (w0 := w) w.heap.size rfl (.tmp 33) (.tmp 35) 24 3 (.int .i64 0) 8 rfl Tryz.underlying24 info3 rfl (by decide) (by omega) u9 own y [.int .i64 y] (fun k_ => k_ ≠ b ∧ some k_ ≠ (u5 : Value).ownBlock) (fun _ => False) rfl rfl ?aP (fun _ hk => hk.elim) ?aF ?aO ?aB ?aS ?aL ?_; (case aP => exact rfl); (case aF => exact fun k_ hk => ⟨by have := BL.out; have := SZ5.out; omega, fun e => by have := LO.out k_ e.symm; have := SZ5.out; omega⟩); (case aO => exact HW5.out); (case aB => exact B5.out); (case aS => exact B5.out.size); (case aL => have := HOL2.out; omega); intro v36 w6 ho hb hg hat; have HW6 := Aside0.mk ho; have B6 := Aside0.mk hb; have HM6 := Aside0.mk (HM5.out.kept hg (fun e => (HW5.out.1 b e.symm).1 rfl)); have HO6 := Aside0.mk (Kd.S_after (v := u9) (v1 := v36) (ok := fun k_ => k_ ≠ b) HO5.out hg hat); have SZ6 := Aside0.mk (Nat.le_trans SZ5.out hg.size); clear ho hb hg hat) | (go_at_fn gF; (with_reducible refine (impl_cycles_int.Fvb.calls HZ.out B6.out).mono ?_); rintro e w7 ⟨rfl, hb⟩; have B7 := Aside0.mk (below_to B6.out hb); have HW7 := Aside0.mk (Kd.R_below HW6.out hb); have HO7 := Aside0.mk (Kd.S_below HO6.out hb); have HM7 := Aside0.mk (HM6.out.kept (grown_of_below hb none) (by simp)); have SZ7 := Aside0.mk (Nat.le_trans SZ6.out hb.size); clear hb))
                        go_roundg k1
                        case measure => have := HK1.out; omega
                        case rel => exact ⟨met1 ++ [y], own ++ [y], z, _, rfl, HA2, ⟨by have := HK1.out; omega⟩, ⟨by rw [List.length_append]; exact HM7.out⟩, ⟨impl_cycles_int.put_at HM.out.isMap HD.out⟩, HO7, HW7, SZ7, B7⟩
                      · cases hA
                    · cases hA
                · cases hA
          · cases hG
      · cases hG
    · have e1 : r = out := by
        have := HG.out
        rw [List.drop_of_length_le (by omega), impl_cycles_int.go] at this
        exact (Option.some.inj this).symm
      subst e1
      go_wp2
      go_ret
      exact ⟨_, rfl, Kd.S_mono HO.out (fun _ _ => trivial), HB.out⟩
def impl_Poset_orbits.f (k : Nat) (l0_0 : List Int) : Option (List (List Int)) := (impl_Poset_ideals.f k l0_0).bind fun s => if s.length ≤ 9223372036854775806 then impl_cycles_int.f k (fun x => impl_Poset_row.f k l0_0 x) s else none
theorem impl_Poset_orbits.mono : ∀ a0 k, LeO (impl_Poset_orbits.f k a0) (impl_Poset_orbits.f (k + 1) a0) := fun l0 k => LeO.bind (impl_Poset_ideals.mono _ _) fun s => LeO.ite (impl_cycles_int.mono (fun x => impl_Poset_row.mono _ _ _) k s) (LeO.refl _)
theorem impl_Poset_orbits.lit (k : Nat) (A0 : Option Addr) (c0 : Nat) (l0 : List Int) (x y : Int) (w : World) (hr0 : Kd.C (Kd.int .i64) w A0 l0.length l0) (hc0 : l0.length ≤ c0) (h : impl_Poset_row.f k l0 x = some y) :
    impl_cycles_int.Fvb Tryz.prog 235 #[.agg #[.slice A0 l0.length c0]] #[] (.int .i64 x) (.int .i64 y) w := by
  intro W hb
  show Calls Tryz.prog 235 #[.agg #[.slice A0 l0.length c0], .int .i64 x] W _
  exact impl_Poset_row.calls k A0 c0 l0 x y W (Kd.C_below hr0 hb) hc0 h
open Go.Proofs.YtkgngggppcmpfaaGreat.X in
set_option maxHeartbeats 1600000 in
set_option maxRecDepth 100000 in
theorem impl_Poset_orbits.calls (k : Nat) (A0_0 : Option Addr) (c0_0 : Nat) (l0_0 : List Int) (r : List (List Int)) (w : World) (hr0_0 : Kd.C (Kd.int .i64) w A0_0 l0_0.length l0_0) (hc0_0 : l0_0.length ≤ c0_0) (h : impl_Poset_orbits.f k l0_0 = some r) :
    Calls Tryz.prog 182 #[.agg #[.slice A0_0 l0_0.length c0_0]] w fun e w' => ∃ v0_ : Value, e = .returned (v0_) ∧ Kd.S (Kd.slice 3 (Kd.int .i64)) 24 w' w.heap.size (fun _ => True) v0_ r ∧ Below w.heap.size w w' := by
  unfold impl_Poset_orbits.f at h
  obtain ⟨s, hs, h⟩ := Option.bind_eq_some_iff.mp h
  split at h
  · rename_i hl
    have HS := Aside0.mk hs
    have HF := Aside0.mk h
    have HL := Aside0.mk hl
    have HR := Aside0.mk hr0_0
    have HC := Aside0.mk hc0_0
    clear h hs hl hr0_0 hc0_0
    have hu := Tryz.underlying26
    go_enter Tryz.func182, Tryz.ntmps182
    go_wp2_with fail
    obtain ⟨W1, hW1⟩ : ∃ W1, W1 = w.alloc (.cells #[.slice A0_0 l0_0.length c0_0] 26) := ⟨_, rfl⟩
    rw [← hW1]
    have B1 := Aside0.mk (show Below w.heap.size w W1 by rw [hW1]; exact below_alloc (Below.refl _ _) _)
    have q1 : W1.cell? ⟨w.heap.size, 0, none⟩ = some (.slice A0_0 l0_0.length c0_0) := by rw [hW1]; simp
    clear hW1
    go_region_held3 (fun w' => w'.cell? ⟨w.heap.size, 0, none⟩ = some (.slice A0_0 l0_0.length c0_0) ∧ Below w.heap.size w w')
      (first | exact ⟨q1, below_drew B1.out⟩ | exact ⟨pw_cell_below hb q1, below_to (below_drew B1.out) hb⟩ | exact ⟨pw_cell_below hb (And.left (by assumption)), below_to (And.right (by assumption)) hb⟩)
      (first
        | (go_at_call 169; refine (impl_Poset_ideals.calls k _ _ l0_0 s _ (by first | exact Kd.C_below HR.out (below_drew B1.out) | exact Kd.C_below HR.out (And.right (by assumption))) HC.out HS.out).mono ?_; rintro e w2 ⟨v1, rfl, hR, hb⟩; obtain ⟨Ao, co, rfl, hl, hC⟩ := Kd.R_reads hR)
        | (go_at_call 240; have B9 := Aside0.mk (show Below w.heap.size w w2 from And.right (by assumption)); refine (impl_cycles_int.calls k Ao co s 235 #[.agg #[.slice A0_0 l0_0.length c0_0]] #[] (fun x => impl_Poset_row.f k l0_0 x) r _ (enters_ Tryz.func235 (by kernel_rfl) rfl) hC HL.out (fun x y h => impl_Poset_orbits.lit k _ _ l0_0 x y _ (Kd.C_below HR.out (And.right (by assumption))) HC.out h) HF.out).mono ?_; rintro e w3 ⟨v2, rfl, hR2, hb⟩))
    all_goals
      go_wp2
      go_ret
      exact ⟨_, rfl, Kd.S_lower hR2 B9.out.size, And.right (by assumption)⟩
  · cases h
end Go.Proofs.YtkgngggppcmpfaaGreat.L
end
section
namespace Go.Proofs.YtkgngggppcmpfaaGreat.L
open Go.RowKit Go.Proofs.YtkgngggppcmpfaaGreatW.PrintWords Go.Proofs.YtkgngggppcmpfaaGreatW.PrintLast Go.Proofs.YtkgngggppcmpfaaGreatW.PrintMore Go.Proofs.YtkgngggppcmpfaaGreat.X
attribute [local go_sem] max2_int min2_int max_two min_two max_three min_three max_four min_four
set_option linter.unusedVariables false
set_option linter.unusedSimpArgs false
def impl_lengths_int.l0 : Nat → List Int → List (List Int) → Int → Int → Option (List Int)
  | 0, _, _, _, _ => none
  | k + 1, x3, x7, x8, x9 => if x9 < x8 then (if 0 ≤ x9 then (if x9 < (x7.length : Int) then (if x3.length < 17592186044416 then (impl_lengths_int.l0 k (x3 ++ [((rd_L3 x7 x9).length : Int)]) x7 x8 (wrap64 (x9 + 1))) else (none)) else (none)) else (none)) else (some x3)
def impl_lengths_int.f (k : Nat) (l0 : List (List Int)) : Option (List Int) := impl_lengths_int.l0 k (([] : List Int)) l0 (l0.length : Int) 0
theorem impl_lengths_int.mono_l : ∀ k, (∀ y0 y1 y2 y3, LeO (impl_lengths_int.l0 k y0 y1 y2 y3) (impl_lengths_int.l0 (k + 1) y0 y1 y2 y3))
  | 0 => fun _ _ _ _ r h => by simp [impl_lengths_int.l0] at h
  | k + 1 => by
    have ih0 := impl_lengths_int.mono_l k
    · intro y0 y1 y2 y3
      unfold impl_lengths_int.l0
      repeat' first
      | (with_reducible exact ih0 _ _ _ _)
      | (with_reducible exact LeO.refl _)
      | (with_reducible exact LeO.none _)
      | (with_reducible refine LeO.ite ?_ ?_)
      | (with_reducible refine LeO.bind ?_ (fun _ => ?_))
      | exact ih0 _ _ _ _
      | exact LeO.none _
      | refine LeO.ite ?_ ?_
      | refine LeO.bind ?_ (fun _ => ?_)
theorem impl_lengths_int.mono : ∀ a0 k, LeO (impl_lengths_int.f k a0) (impl_lengths_int.f (k + 1) a0) := by
  intro a0 k
  have ih0 := impl_lengths_int.mono_l k
  unfold impl_lengths_int.f
  repeat' (with_reducible first | apply ih0 | exact LeO.refl _ | exact LeO.none _ | refine LeO.ite ?_ ?_ | refine LeO.bind ?_ (fun _ => ?_))
set_option maxHeartbeats 8000000 in
set_option maxRecDepth 100000 in
theorem impl_lengths_int.calls (k : Nat) (A0 : Option Addr) (c0 : Nat) (l0 : List (List Int)) (r : List Int) (w : World) (hr0 : Kd.C (Kd.slice 3 (Kd.int .i64)) w A0 l0.length l0) (hc0 : l0.length ≤ c0) (h : impl_lengths_int.f k l0 = some r) :
    Calls Tryz.prog 185 #[.slice A0 l0.length c0] w fun e w' => ∃ v0_ : Value, e = .returned (v0_) ∧ Kd.R (Kd.int .i64) 3 w' w.heap.size (fun _ => True) v0_ r ∧ Below w.heap.size w w' := by
  have HR0 := Aside0.mk hr0
  have HC0 := Aside0.mk hc0
  clear hr0 hc0
  have HB := Aside0.mk (Below.refl w.heap.size w)
  have H : (impl_lengths_int.l0 k (([] : List Int)) l0 (l0.length : Int) 0) = some r := h
  clear h
  obtain ⟨y412, hy412⟩ : ∃ y_ : List Int, y_ = (([] : List Int)) := ⟨_, rfl⟩
  replace H : (impl_lengths_int.l0 k y412 l0 (l0.length : Int) 0) = some r := by first | (rw [hy412]; with_reducible exact H) | (have H2_ := (Option.bind_some _ _).symm.trans H; rw [hy412]; with_reducible exact H2_) | (have H2_ := (Option.bind_some _ _).symm.trans H; with_reducible exact H2_) | with_reducible exact H | (rw [hy412]; exact H) | exact H
  have Ny412 := Aside0.mk hy412
  clear hy412
  have H' := Aside0.mk H
  clear H
  go_enter Tryz.func185, Tryz.ntmps185
  go_wp2_with (first | ((with_reducible refine gate_dst (N := 6) rfl ?_); refine Kd.R_lit (Kd.int .i64) _ 3 ?hg (N := 6) ?hd (xs := ([] : List Int)) (inner := []) (ok := fun _ => True) (okp := fun _ => True) ?hr ?hp (fun _ hk => hk) trivial (Below.refl _ _) (Nat.le_refl _) (by simp) ?_; (case hd => rfl); (case hg => rfl); (case hr => first | (go_simp; done) | (go_simp; rfl)); (case hp => exact (Reps.none _ _)); intro v413 w2 ho3 hb hg_ hnew_; clear hg_ hnew_; (first | rw [← Ny412.out] at ho3 | (simp only [Int.reduceToNat] at ho3; rw [← Ny412.out] at ho3)); have n0_ := Aside0.mk (Kd.R_lower ho3 (below_size (uB HB))); have n1_ := Aside0.mk (below_step (uB HB) hb); clear HB; have HO414 := n0_; have HB := n1_; clear n0_ n1_; clear hb ho3))
  go_loopg [3, 9] k (fun kq v3 v9 w' => ∃ (x3_1 : List Int) (x9_1 : Int), v9 = .int .i64 x9_1 ∧ Aside0 (impl_lengths_int.l0 kq x3_1 l0 (l0.length : Int) x9_1 = some r) ∧ Aside0 (kq ≤ k) ∧ Aside0 (Kd.R (Kd.int .i64) 3 w' w.heap.size (fun _ => True) v3 x3_1) ∧ Aside0 (Below w.heap.size w w'))
  case atStart => exact ⟨(y412), (0), (by first | rfl | (simp; done) | (simp [*]; done)), H', ⟨Nat.le_refl _⟩, ⟨uR HO414⟩, ⟨uB HB⟩⟩
  case round =>
    clear H'
    skip
    obtain ⟨x3_1, x9_1, rfl, HA, HK1, HO_3, HB⟩ := hrel
    cases gk with
    | zero => exact absurd HA.out (by simp [impl_lengths_int.l0])
    | succ k1 =>
      have H := HA.out
      clear HA
      simp only [impl_lengths_int.l0] at H
      by_cases c4 : x9_1 < (l0.length : Int)
      · rw [if_pos c4] at H
        have c4b0 := decide_eq_true c4
        clear c4
        by_cases c5 : 0 ≤ x9_1
        · rw [if_pos c5] at H
          have c5b0 := decide_eq_true c5
          clear c5
          by_cases c6 : x9_1 < (l0.length : Int)
          · rw [if_pos c6] at H
            have c6b0 := decide_eq_true c6
            clear c6
            by_cases c7 : x3_1.length < 17592186044416
            · rw [if_pos c7] at H
              have LMc7 := Aside0.mk c7
              clear c7
              obtain ⟨y416, hy416⟩ : ∃ y_ : List Int, y_ = (x3_1 ++ [((rd_L3 l0 x9_1).length : Int)]) := ⟨_, rfl⟩
              replace H : (impl_lengths_int.l0 k1 y416 l0 (l0.length : Int) (wrap64 (x9_1 + 1))) = some r := by first | (rw [hy416]; with_reducible exact H) | (have H2_ := (Option.bind_some _ _).symm.trans H; rw [hy416]; with_reducible exact H2_) | (have H2_ := (Option.bind_some _ _).symm.trans H; with_reducible exact H2_) | with_reducible exact H | (rw [hy416]; exact H) | exact H
              have Ny416 := Aside0.mk hy416
              clear hy416
              have H' := Aside0.mk H
              clear H
              have p415 : 0 ≤ (x9_1 : Int) := of_decide_eq_true (by first | (with_reducible assumption) | assumption)
              have q415 : x9_1 < (l0.length : Int) := of_decide_eq_true (by first | (with_reducible assumption) | assumption)
              obtain ⟨ad415, A415_0, c415_0, e415, hx415_0, hl415_0, hi415_0⟩ := at_L3 HR0.out x9_1 p415 q415
              cases e415
              replace hx415_0 := (HB.out.cell (World.block_lt_of_cell? w _ hx415_0)).trans hx415_0
              have HR415_0 := Aside0.mk hi415_0
              have HC415_0 := Aside0.mk hl415_0
              clear hi415_0 hl415_0
              replace p415 := eq_true p415
              replace q415 := eq_true q415
              go_wp2_with (first | ((with_reducible refine gate_builtin (b := .append) (xs := #[.tmp 13, .tmp 16]) rfl ?_); at_builtin; refine Kd.R_append (Kd.int .i64) (w0 := w) w.heap.size rfl (.tmp 13) (.tmp 16) 24 3 (.int .i64 0) 8 rfl Tryz.underlying24 info3 rfl (by decide) (by omega) u3 x3_1 ((rd_L3 l0 x9_1).length : Int) [.int .i64 ((rd_L3 l0 x9_1).length : Int)] (fun _ => True) (fun _ => False) rfl rfl ?aP (fun _ hk => hk.elim) ?aF ?aO ?aB ?aS ?aL ?_; (case aP => exact rfl); (case aB => exact (uB HB)); (case aF => exact (fun _ _ => trivial)); (case aO => exact (uR HO_3)); (case aS => exact (below_size (uB HB))); (case aL => have := LMc7.out; omega); intro v417 w8 ho hb hg hat; rw [← Ny416.out] at ho; have n0_ := Aside0.mk (hb); have n1_ := Aside0.mk (ho); clear HB; clear HO_3; have HB := n0_; have HO418 := n1_; clear n0_ n1_; clear ho hb hg hat))
              go_roundg k1
              case measure => have := HK1.out; omega
              case rel => exact ⟨(y416), (wrap64 (x9_1 + 1)), (by first | rfl | (simp; done) | (simp [*]; done)), H', ⟨by have := HK1.out; omega⟩, ⟨uR HO418⟩, ⟨uB HB⟩⟩
            · rw [if_neg c7] at H
              exact absurd H (by simp)
          · rw [if_neg c6] at H
            exact absurd H (by simp)
        · rw [if_neg c5] at H
          exact absurd H (by simp)
      · rw [if_neg c4] at H
        have c4b0 := decide_eq_false c4
        clear c4
        obtain rfl := Option.some.inj H
        go_wp2
        go_ret
        exact ⟨_, by first | rfl | (simp [errW_none, errW_some] <;> rfl) | (simp [*, errW_none, errW_some] <;> rfl), uR HO_3, uB HB⟩
def impl_rowLengths.f (k : Nat) (a0 : Int) (a1 : Int) : Option (List Int) := (impl_rectangle.f k a0 a1).bind fun t419 => ((impl_Poset_orbits.f k t419).bind fun t422 => ((impl_lengths_int.f k t422).bind fun t425 => (some t425)))
theorem impl_rowLengths.mono : ∀ a0 a1 k, LeO (impl_rowLengths.f k a0 a1) (impl_rowLengths.f (k + 1) a0 a1) := by
  intro a0 a1 k
  unfold impl_rowLengths.f
  repeat' (with_reducible first | apply impl_Poset_orbits.mono | apply impl_lengths_int.mono | apply impl_rectangle.mono | exact LeO.refl _ | exact LeO.none _ | refine LeO.ite ?_ ?_ | refine LeO.bind ?_ (fun _ => ?_))
set_option maxHeartbeats 8000000 in
set_option maxRecDepth 100000 in
theorem impl_rowLengths.calls (k : Nat) (a0 : Int) (a1 : Int) (r : List Int) (w : World) (h : impl_rowLengths.f k a0 a1 = some r) :
    Calls Tryz.prog 208 #[.int .i64 a0, .int .i64 a1] w fun e w' => ∃ v0_ : Value, e = .returned (v0_) ∧ Kd.R (Kd.int .i64) 3 w' w.heap.size (fun _ => True) v0_ r ∧ Below w.heap.size w w' := by
  have HB := Aside0.mk (Below.refl w.heap.size w)
  have H : ((impl_rectangle.f k a0 a1).bind fun t419 => ((impl_Poset_orbits.f k t419).bind fun t422 => ((impl_lengths_int.f k t422).bind fun t425 => (some t425)))) = some r := h
  clear h
  obtain ⟨t419, A3, H⟩ := bs H; (try dsimp only at H)
  obtain ⟨t422, A4, H⟩ := bs H; (try dsimp only at H)
  obtain ⟨t425, A5, H⟩ := bs H; (try dsimp only at H)
  obtain rfl := Option.some.inj H
  go_enter Tryz.func208, Tryz.ntmps208
  go_wp2_with (first | (refine gA (some 7) Tryz.func229 #[.int .i64 a0, .int .i64 a1] ?_; (with_reducible refine (impl_rectangle.calls k a0 a1 t419 _ A3.out).mono ?_); rintro e w6 ⟨v420, rfl, ho0, hb⟩; refine ⟨_, rfl, ?_⟩; have n0_ := Aside0.mk (Kd.R_lower ho0 (below_size (uB HB))); have n1_ := Aside0.mk (below_step (uB HB) hb); clear HB; have HO421 := n0_; have HB := n1_; clear n0_ n1_; (try clear hb ho0); obtain ⟨Ao7, co7, eo7⟩ := Kd.R_slice HO421.out; subst eo7) | (refine gA (some 8) Tryz.func182 #[.agg #[.slice Ao7 t419.length co7]] ?_; (with_reducible refine (impl_Poset_orbits.calls k _ _ t419 t422 _ (uE HO421) ?side2 A4.out).mono ?_); (case side2 => exact (Kd.R_reads' HO421.out).2.1); rintro e w8 ⟨v423, rfl, ho0, hb⟩; refine ⟨_, rfl, ?_⟩; have n0_ := Aside0.mk (Kd.R_below (uR HO421) hb); have n1_ := Aside0.mk (Kd.S_lower (Kd.S_new' ho0 (Kd.R_lt (uR HO421))) (below_size (uB HB))); have n2_ := Aside0.mk (below_step (uB HB) hb); clear HO421; clear HB; have HO421 := n0_; have HO424 := n1_; have HB := n2_; clear n0_ n1_ n2_; (try clear hb ho0); obtain ⟨Ao9, co9, eo9⟩ := Kd.S_slice HO424.out; subst eo9) | (refine gA (some 9) Tryz.func185 #[.slice Ao9 t422.length co9] ?_; (with_reducible refine (impl_lengths_int.calls k _ _ t422 t425 _ ?side1 ?side2 A5.out).mono ?_); (case side1 => repeat (first | exact (Kd.S_reads' HO424.out).2.2 | (with_reducible refine Kd.C_alloc ?_ _) | (with_reducible refine Kd.C_drewN ?_ _) | (with_reducible refine Kd.C_drew ?_))); (case side2 => exact (Kd.S_reads' HO424.out).2.1); rintro e w10 ⟨v426, rfl, ho0, hb⟩; refine ⟨_, rfl, ?_⟩; have n0_ := Aside0.mk (Kd.R_elder' (uR HO421) (Kd.R_base ho0) hb); have n1_ := Aside0.mk (Kd.S_elder' (uS HO424) (Kd.R_base ho0) hb); have n2_ := Aside0.mk (Kd.R_lower (Kd.R_new' ho0 (Kd.R_lt (uR HO421))) (below_size (uB HB))); have n3_ := Aside0.mk (below_step (uB HB) hb); clear HO421; clear HO424; clear HB; have HO421 := n0_; have HO424 := n1_; have HO427 := n2_; have HB := n3_; clear n0_ n1_ n2_ n3_; (try clear hb ho0)))
  go_ret
  exact ⟨_, by first | rfl | (simp [errW_none, errW_some] <;> rfl) | (simp [*, errW_none, errW_some] <;> rfl), Kd.R_mono (uR HO427) (fun _ hk => trivial), uB HB⟩
def impl_RowStabilizers.f (k : Nat) (a0 : Int) (a1 : Int) : Option (List Int × Bool) := (impl_areSides.f a0 a1 10).bind fun t428 => (if t428 = true then ((impl_rowLengths.f k a0 a1).bind fun t429 => ((impl_stabilizers.f k t429 (wrap64 (a0 + a1))).bind fun t432 => (some (t432, true)))) else (some (([] : List Int), false)))
theorem impl_RowStabilizers.mono : ∀ a0 a1 k, LeO (impl_RowStabilizers.f k a0 a1) (impl_RowStabilizers.f (k + 1) a0 a1) := by
  intro a0 a1 k
  unfold impl_RowStabilizers.f
  repeat' (with_reducible first | apply impl_rowLengths.mono | apply impl_stabilizers.mono | exact LeO.refl _ | exact LeO.none _ | refine LeO.ite ?_ ?_ | refine LeO.bind ?_ (fun _ => ?_))
set_option maxHeartbeats 8000000 in
set_option maxRecDepth 100000 in
theorem impl_RowStabilizers.calls (k : Nat) (a0 : Int) (a1 : Int) (r1 : List Int) (r2 : Bool) (w : World) (h : impl_RowStabilizers.f k a0 a1 = some (r1, r2)) :
    Calls Tryz.prog 62 #[.int .i64 a0, .int .i64 a1] w fun e w' => ∃ v0_ : Value, e = .returned (.tuple #[v0_, .bool r2]) ∧ Kd.R (Kd.int .i64) 3 w' w.heap.size (fun _ => True) v0_ r1 ∧ Below w.heap.size w w' := by
  have HB := Aside0.mk (Below.refl w.heap.size w)
  have H : ((impl_areSides.f a0 a1 10).bind fun t428 => (if t428 = true then ((impl_rowLengths.f k a0 a1).bind fun t429 => ((impl_stabilizers.f k t429 (wrap64 (a0 + a1))).bind fun t432 => (some (t432, true)))) else (some (([] : List Int), false)))) = some (r1, r2) := h
  clear h
  obtain ⟨t428, A3, H⟩ := bs H; (try dsimp only at H)
  by_cases c4 : t428 = true
  · subst c4
    rw [if_pos rfl] at H
    obtain ⟨t429, A5, H⟩ := bs H; (try dsimp only at H)
    obtain ⟨t432, A6, H⟩ := bs H; (try dsimp only at H)
    simp only [Option.some.injEq, Prod.mk.injEq] at H
    obtain ⟨rfl, rfl⟩ := H
    go_enter Tryz.func62, Tryz.ntmps62
    go_wp2_with (first | (refine gA (some 8) Tryz.func206 #[.int .i64 a0, .int .i64 a1, .int .i64 10] ?_; (with_reducible refine (impl_areSides.calls a0 a1 10 true _ A3.out).mono ?_); rintro e w' ⟨rfl, ⟨nd, rfl⟩⟩; refine ⟨_, rfl, ?_⟩) | (refine gA (some 12) Tryz.func208 #[.int .i64 a0, .int .i64 a1] ?_; (with_reducible refine (impl_rowLengths.calls k a0 a1 t429 _ A5.out).mono ?_); rintro e w7 ⟨v430, rfl, ho0, hb⟩; refine ⟨_, rfl, ?_⟩; have n0_ := Aside0.mk (Kd.R_lower ho0 (below_size (uB HB))); have n1_ := Aside0.mk (below_step (uB HB) hb); clear HB; have HO431 := n0_; have HB := n1_; clear n0_ n1_; (try clear hb ho0); obtain ⟨Ao8, co8, eo8⟩ := Kd.R_slice HO431.out; subst eo8) | (refine gA (some 16) Tryz.func207 #[.slice Ao8 t429.length co8, .int .i64 (wrap64 (a0 + a1))] ?_; (with_reducible refine (impl_stabilizers.calls k _ _ t429 (wrap64 (a0 + a1)) t432 _ (uE HO431) ?side2 A6.out).mono ?_); (case side2 => exact (Kd.R_reads' HO431.out).2.1); rintro e w9 ⟨v433, rfl, ho0, hb⟩; refine ⟨_, rfl, ?_⟩; have n0_ := Aside0.mk (Kd.R_elder' (uR HO431) (Kd.R_base ho0) hb); have n1_ := Aside0.mk (Kd.R_lower (Kd.R_new' ho0 (Kd.R_lt (uR HO431))) (below_size (uB HB))); have n2_ := Aside0.mk (below_step (uB HB) hb); clear HO431; clear HB; have HO431 := n0_; have HO434 := n1_; have HB := n2_; clear n0_ n1_ n2_; (try clear hb ho0)))
    go_ret2
    exact ⟨_, by first | rfl | (simp [errW_none, errW_some] <;> rfl) | (simp [*, errW_none, errW_some] <;> rfl), Kd.R_mono (uR HO434) (fun _ hk => trivial), uB HB⟩
  · replace c4 := Bool.eq_false_iff.mpr c4
    subst c4
    rw [if_neg (show ¬ (false = true) by decide)] at H
    simp only [Option.some.injEq, Prod.mk.injEq] at H
    obtain ⟨rfl, rfl⟩ := H
    go_enter Tryz.func62, Tryz.ntmps62
    go_wp2_with (first | (refine gA (some 8) Tryz.func206 #[.int .i64 a0, .int .i64 a1, .int .i64 10] ?_; (with_reducible refine (impl_areSides.calls a0 a1 10 false _ A3.out).mono ?_); rintro e w' ⟨rfl, ⟨nd, rfl⟩⟩; refine ⟨_, rfl, ?_⟩))
    go_ret2
    exact ⟨_, by first | rfl | (simp [errW_none, errW_some] <;> rfl) | (simp [*, errW_none, errW_some] <;> rfl), by first | exact Kd.R_nil _ _ _ _ _ | exact Kd.N_nil _ _ _ _ _ | exact Kd.V_nil _ _ _ _ _ | exact Kd.Q_nil _ _ _ _ _ | exact Kd.S_nil _ _ _ _ _, uB HB⟩
end Go.Proofs.YtkgngggppcmpfaaGreat.L
end
section
namespace Go.Proofs.YtkgngggppcmpfaaGreat.L
open Go.RowKit Go.Proofs.YtkgngggppcmpfaaGreatW.PrintWords Go.Proofs.YtkgngggppcmpfaaGreatW.PrintLast Go.Proofs.YtkgngggppcmpfaaGreatW.PrintMore
attribute [local go_sem] max2_int min2_int max_two min_two max_three min_three max_four min_four
set_option linter.unusedVariables false
set_option linter.unusedSimpArgs false
def spec_poIn.f (a0 : Int) (a1 : Int) : Option (Bool) := if 0 ≤ a1 then (some ((Int.tmod (shr .i64 a0 a1) 2) == 1)) else (none)
set_option maxHeartbeats 8000000 in
set_option maxRecDepth 100000 in
theorem spec_poIn.calls (a0 : Int) (a1 : Int) (r : Bool) (w : World) (h : spec_poIn.f a0 a1 = some r) :
    Calls Tryz.prog 253 #[.int .i64 a0, .int .i64 a1] w fun e w' => e = .returned (.bool r) ∧ Drawn0 w w' := by
  have H : (if 0 ≤ a1 then (some ((Int.tmod (shr .i64 a0 a1) 2) == 1)) else (none)) = some r := h
  clear h
  by_cases c3 : 0 ≤ a1
  · rw [if_pos c3] at H
    have c3b0 := eq_true c3
    have c3b1 := decide_eq_true c3
    clear c3
    obtain ⟨ji4, hji4⟩ : ∃ j_ : Int, (shr .i64 a0 a1) = j_ := ⟨_, rfl⟩
    replace H : (some ((Int.tmod (ji4) 2) == 1)) = some r := by first | (rw [hji4] at H; exact H) | (simp only [hji4] at H ⊢; exact H)
    have hji4_ : (a0 / 2 ^ min a1.toNat 64) = ji4 := hji4
    have hji4z : a1 ≤ 64 → (a0 / 2 ^ a1.toNat) = ji4 := shr_small hji4
    obtain rfl := Option.some.inj H
    go_enter Tryz.func253, Tryz.ntmps253
    go_wp2
    go_ret
    exact ⟨by first | rfl | (simp; done) | (simp only [← hji4] <;> (first | rfl | simp)) | (simp [*]; done), by repeat (first | exact Drawn0.refl _ | apply Drawn0.step)⟩
  · rw [if_neg c3] at H
    exact absurd H (by simp)
end Go.Proofs.YtkgngggppcmpfaaGreat.L
end
section
namespace Go.Proofs.YtkgngggppcmpfaaGreat.L
open Go.RowKit Go.Proofs.YtkgngggppcmpfaaGreatW.PrintWords Go.Proofs.YtkgngggppcmpfaaGreatW.PrintLast Go.Proofs.YtkgngggppcmpfaaGreatW.PrintMore Go.Proofs.YtkgngggppcmpfaaGreat.X
attribute [local go_sem] max2_int min2_int max_two min_two max_three min_three max_four min_four
set_option linter.unusedVariables false
set_option linter.unusedSimpArgs false
def spec_poIdeal.l0 : Nat → Int → List Int → Int → Int → Option (Bool)
  | 0, _, _, _, _ => none
  | k + 1, x1, x8, x9, x10 => if x10 < x9 then (if 0 ≤ x10 then (if x10 < (x8.length : Int) then ((spec_poIn.f x1 x10).bind fun t437 => (if t437 = true then (if (Go.bits .andNot .i64 (rd x8 x10) x1) = 0 then (spec_poIdeal.l0 k x1 x8 x9 (wrap64 (x10 + 1))) else (some false)) else (spec_poIdeal.l0 k x1 x8 x9 (wrap64 (x10 + 1))))) else (none)) else (none)) else (some true)
def spec_poIdeal.f (k : Nat) (l0_0 : List Int) (a1 : Int) : Option (Bool) := spec_poIdeal.l0 k a1 l0_0 (l0_0.length : Int) 0
theorem spec_poIdeal.mono_l : ∀ k, (∀ y0 y1 y2 y3, LeO (spec_poIdeal.l0 k y0 y1 y2 y3) (spec_poIdeal.l0 (k + 1) y0 y1 y2 y3))
  | 0 => fun _ _ _ _ r h => by simp [spec_poIdeal.l0] at h
  | k + 1 => by
    have ih0 := spec_poIdeal.mono_l k
    · intro y0 y1 y2 y3
      unfold spec_poIdeal.l0
      repeat' first
      | (with_reducible exact ih0 _ _ _ _)
      | (with_reducible exact LeO.refl _)
      | (with_reducible exact LeO.none _)
      | (with_reducible refine LeO.ite ?_ ?_)
      | (with_reducible refine LeO.bind ?_ (fun _ => ?_))
      | exact ih0 _ _ _ _
      | exact LeO.none _
      | refine LeO.ite ?_ ?_
      | refine LeO.bind ?_ (fun _ => ?_)
theorem spec_poIdeal.mono : ∀ a0 a1 k, LeO (spec_poIdeal.f k a0 a1) (spec_poIdeal.f (k + 1) a0 a1) := by
  intro a0 a1 k
  have ih0 := spec_poIdeal.mono_l k
  unfold spec_poIdeal.f
  repeat' (with_reducible first | apply ih0 | exact LeO.refl _ | exact LeO.none _ | refine LeO.ite ?_ ?_ | refine LeO.bind ?_ (fun _ => ?_))
set_option maxHeartbeats 8000000 in
set_option maxRecDepth 100000 in
theorem spec_poIdeal.calls (k : Nat) (A0_0 : Option Addr) (c0_0 : Nat) (l0_0 : List Int) (a1 : Int) (r : Bool) (w : World) (hr0_0 : Kd.C (Kd.int .i64) w A0_0 l0_0.length l0_0) (hc0_0 : l0_0.length ≤ c0_0) (h : spec_poIdeal.f k l0_0 a1 = some r) :
    Calls Tryz.prog 278 #[.agg #[.slice A0_0 l0_0.length c0_0], .int .i64 a1] w fun e w' => e = .returned (.bool r) ∧ Below w.heap.size w w' := by
  have hu26 := Tryz.underlying26
  have HR0_0 := Aside0.mk hr0_0
  have HC0_0 := Aside0.mk hc0_0
  clear hr0_0 hc0_0
  have HB := Aside0.mk (Below.refl w.heap.size w)
  have H : (spec_poIdeal.l0 k a1 l0_0 (l0_0.length : Int) 0) = some r := h
  clear h
  have H' := Aside0.mk H
  clear H
  go_enter Tryz.func278, Tryz.ntmps278
  go_wp2_with (first | (refine bE (N := 2) (cs := #[.slice A0_0 l0_0.length c0_0]) (t := 26) ?_; intro gb435 hg w3 hbox hb; have n0_ := Aside0.mk (below_step (uB HB) hb); have n1_ := Aside0.mk (hbox); have n2_ := Aside0.mk ((by rw [hg]; exact (below_size (uB HB)) : w.heap.size ≤ gb435)); have n3_ := Aside0.mk ((by rw [hg]; exact (below_size (uB HB)) : w.heap.size ≤ gb435)); clear HB; have HB := n0_; have BK435 := n1_; have GW435 := n2_; have GE435 := n3_; clear n0_ n1_ n2_ n3_; clear hb hbox hg; have hcz4_0 := bC BK435; have hfz4_0 := blk_frozen BK435.out 0))
  go_loopg [10] k (fun kq v10 w' => ∃ (x10_1 : Int), v10 = .int .i64 x10_1 ∧ Aside0 (spec_poIdeal.l0 kq a1 l0_0 (l0_0.length : Int) x10_1 = some r) ∧ Aside0 (kq ≤ k) ∧ Aside0 (w'.heap[gb435]? = some (.cells #[(.slice A0_0 l0_0.length c0_0)] 26 (0, 0))) ∧ Aside0 (Below w.heap.size w w'))
  case atStart => exact ⟨(0), (by first | rfl | (simp; done) | (simp [*]; done)), H', ⟨Nat.le_refl _⟩, ⟨uK BK435⟩, ⟨(vB HB)⟩⟩
  case round =>
    clear H'
    try clear hcz4_0 hfz4_0
    obtain ⟨x10_1, rfl, HA, HK1, BK435, HB⟩ := hrel
    cases gk with
    | zero => exact absurd HA.out (by simp [spec_poIdeal.l0])
    | succ k1 =>
      have H := HA.out
      clear HA
      simp only [spec_poIdeal.l0] at H
      by_cases c5 : x10_1 < (l0_0.length : Int)
      · rw [if_pos c5] at H
        have c5b0 := decide_eq_true c5
        clear c5
        by_cases c6 : 0 ≤ x10_1
        · rw [if_pos c6] at H
          have c6b0 := decide_eq_true c6
          clear c6
          by_cases c7 : x10_1 < (l0_0.length : Int)
          · rw [if_pos c7] at H
            have c7b0 := decide_eq_true c7
            clear c7
            obtain ⟨t437, A8, H⟩ := bs H; (try dsimp only at H)
            by_cases c9 : t437 = true
            · subst c9
              rw [if_pos rfl] at H
              by_cases c10 : (Go.bits .andNot .i64 (rd l0_0 x10_1) a1) = 0
              · rw [if_pos c10] at H
                have c10b0 : ((Go.bits .andNot .i64 (rd l0_0 x10_1) a1) == 0) = true := beq_iff_eq.mpr c10
                have c10b1 : ((Go.bits .andNot .i64 (rd l0_0 x10_1) a1) != 0) = false := bne_eq_false_iff_eq.mpr c10
                clear c10
                have H' := Aside0.mk H
                clear H
                have p436 : 0 ≤ (x10_1 : Int) := of_decide_eq_true (by first | (with_reducible assumption) | assumption)
                have q436 : x10_1 < (l0_0.length : Int) := of_decide_eq_true (by first | (with_reducible assumption) | assumption)
                obtain ⟨ad436, e436, hx436_0⟩ := Kd.at_int HR0_0.out x10_1 p436 q436
                cases e436
                replace hx436_0 := (HB.out.cell (World.block_lt_of_cell? w _ hx436_0)).trans hx436_0
                replace p436 := eq_true p436
                replace q436 := eq_true q436
                go_wp2_with (first | (refine gA (some 17) Tryz.func253 #[.int .i64 a1, .int .i64 x10_1] ?_; (with_reducible refine (spec_poIn.calls a1 x10_1 true _ A8.out).mono ?_); rintro e w' ⟨rfl, ⟨nd, rfl⟩⟩; refine ⟨_, rfl, ?_⟩))
                go_roundg k1
                case measure => have := HK1.out; omega
                case rel => exact ⟨(wrap64 (x10_1 + 1)), (by first | rfl | (simp; done) | (simp [*]; done)), H', ⟨by have := HK1.out; omega⟩, ⟨uK BK435⟩, ⟨(vB HB)⟩⟩
              · rw [if_neg c10] at H
                have c10b0 : ((Go.bits .andNot .i64 (rd l0_0 x10_1) a1) == 0) = false := beq_eq_false_iff_ne.mpr c10
                have c10b1 : ((Go.bits .andNot .i64 (rd l0_0 x10_1) a1) != 0) = true := bne_iff_ne.mpr c10
                obtain rfl := Option.some.inj H
                have p436 : 0 ≤ (x10_1 : Int) := of_decide_eq_true (by first | (with_reducible assumption) | assumption)
                have q436 : x10_1 < (l0_0.length : Int) := of_decide_eq_true (by first | (with_reducible assumption) | assumption)
                obtain ⟨ad436, e436, hx436_0⟩ := Kd.at_int HR0_0.out x10_1 p436 q436
                cases e436
                replace hx436_0 := (HB.out.cell (World.block_lt_of_cell? w _ hx436_0)).trans hx436_0
                replace p436 := eq_true p436
                replace q436 := eq_true q436
                go_wp2_with (first | (refine gA (some 17) Tryz.func253 #[.int .i64 a1, .int .i64 x10_1] ?_; (with_reducible refine (spec_poIn.calls a1 x10_1 true _ A8.out).mono ?_); rintro e w' ⟨rfl, ⟨nd, rfl⟩⟩; refine ⟨_, rfl, ?_⟩))
                go_ret
                exact ⟨by first | rfl | (simp [errW_none, errW_some] <;> rfl) | (simp [*, errW_none, errW_some] <;> rfl), (vB HB)⟩
            · replace c9 := Bool.eq_false_iff.mpr c9
              subst c9
              rw [if_neg (show ¬ (false = true) by decide)] at H
              have H' := Aside0.mk H
              clear H
              have p436 : 0 ≤ (x10_1 : Int) := of_decide_eq_true (by first | (with_reducible assumption) | assumption)
              have q436 : x10_1 < (l0_0.length : Int) := of_decide_eq_true (by first | (with_reducible assumption) | assumption)
              obtain ⟨ad436, e436, hx436_0⟩ := Kd.at_int HR0_0.out x10_1 p436 q436
              cases e436
              replace hx436_0 := (HB.out.cell (World.block_lt_of_cell? w _ hx436_0)).trans hx436_0
              replace p436 := eq_true p436
              replace q436 := eq_true q436
              go_wp2_with (first | (refine gA (some 17) Tryz.func253 #[.int .i64 a1, .int .i64 x10_1] ?_; (with_reducible refine (spec_poIn.calls a1 x10_1 false _ A8.out).mono ?_); rintro e w' ⟨rfl, ⟨nd, rfl⟩⟩; refine ⟨_, rfl, ?_⟩))
              go_roundg k1
              case measure => have := HK1.out; omega
              case rel => exact ⟨(wrap64 (x10_1 + 1)), (by first | rfl | (simp; done) | (simp [*]; done)), H', ⟨by have := HK1.out; omega⟩, ⟨uK BK435⟩, ⟨(vB HB)⟩⟩
          · rw [if_neg c7] at H
            exact absurd H (by simp)
        · rw [if_neg c6] at H
          exact absurd H (by simp)
      · rw [if_neg c5] at H
        have c5b0 := decide_eq_false c5
        clear c5
        obtain rfl := Option.some.inj H
        go_wp2
        go_ret
        exact ⟨by first | rfl | (simp [errW_none, errW_some] <;> rfl) | (simp [*, errW_none, errW_some] <;> rfl), (vB HB)⟩
def spec_poIdeals.l0 : Nat → List Int → Int → List Int → Option (List Int)
  | 0, _, _, _ => none
  | k + 1, x3, x4, x439000 => if x4 < (shl .i64 1 (x439000.length : Int)) then ((spec_poIdeal.f k x439000 x4).bind fun t439 => (if t439 = true then (if x3.length < 17592186044416 then (spec_poIdeals.l0 k (x3 ++ [x4]) (wrap64 (x4 + 1)) x439000) else (none)) else (spec_poIdeals.l0 k x3 (wrap64 (x4 + 1)) x439000))) else (some x3)
def spec_poIdeals.f (k : Nat) (l0_0 : List Int) : Option (List Int) := spec_poIdeals.l0 k ([] : List Int) 0 l0_0
theorem spec_poIdeals.mono_l : ∀ k, (∀ y0 y1 y2, LeO (spec_poIdeals.l0 k y0 y1 y2) (spec_poIdeals.l0 (k + 1) y0 y1 y2))
  | 0 => fun _ _ _ r h => by simp [spec_poIdeals.l0] at h
  | k + 1 => by
    have ih0 := spec_poIdeals.mono_l k
    · intro y0 y1 y2
      unfold spec_poIdeals.l0
      repeat' first
      | (with_reducible exact ih0 _ _ _)
      | (with_reducible exact spec_poIdeal.mono _ _ _)
      | (with_reducible exact LeO.refl _)
      | (with_reducible exact LeO.none _)
      | (with_reducible refine LeO.ite ?_ ?_)
      | (with_reducible refine LeO.bind ?_ (fun _ => ?_))
      | exact ih0 _ _ _
      | exact spec_poIdeal.mono _ _ _
      | exact LeO.none _
      | refine LeO.ite ?_ ?_
      | refine LeO.bind ?_ (fun _ => ?_)
theorem spec_poIdeals.mono : ∀ a0 k, LeO (spec_poIdeals.f k a0) (spec_poIdeals.f (k + 1) a0) := by
  intro a0 k
  have ih0 := spec_poIdeals.mono_l k
  unfold spec_poIdeals.f
  repeat' (with_reducible first | apply ih0 | apply spec_poIdeal.mono | exact LeO.refl _ | exact LeO.none _ | refine LeO.ite ?_ ?_ | refine LeO.bind ?_ (fun _ => ?_))
set_option maxHeartbeats 8000000 in
set_option maxRecDepth 100000 in
theorem spec_poIdeals.calls (k : Nat) (A0_0 : Option Addr) (c0_0 : Nat) (l0_0 : List Int) (r : List Int) (w : World) (hr0_0 : Kd.C (Kd.int .i64) w A0_0 l0_0.length l0_0) (hc0_0 : l0_0.length ≤ c0_0) (h : spec_poIdeals.f k l0_0 = some r) :
    Calls Tryz.prog 171 #[.agg #[.slice A0_0 l0_0.length c0_0]] w fun e w' => ∃ v0_ : Value, e = .returned (v0_) ∧ Kd.R (Kd.int .i64) 3 w' w.heap.size (fun _ => True) v0_ r ∧ Below w.heap.size w w' := by
  have hu26 := Tryz.underlying26
  have HR0_0 := Aside0.mk hr0_0
  have HC0_0 := Aside0.mk hc0_0
  clear hr0_0 hc0_0
  have HB := Aside0.mk (Below.refl w.heap.size w)
  have H : (spec_poIdeals.l0 k ([] : List Int) 0 l0_0) = some r := h
  clear h
  have H' := Aside0.mk H
  clear H
  go_enter Tryz.func171, Tryz.ntmps171
  go_wp2_with (first | (refine bE (N := 1) (cs := #[.slice A0_0 l0_0.length c0_0]) (t := 26) ?_; intro gb438 hg w2 hbox hb; have n0_ := Aside0.mk (below_step (uB HB) hb); have n1_ := Aside0.mk (hbox); have n2_ := Aside0.mk ((by rw [hg]; exact (below_size (uB HB)) : w.heap.size ≤ gb438)); have n3_ := Aside0.mk ((by rw [hg]; exact (below_size (uB HB)) : w.heap.size ≤ gb438)); clear HB; have HB := n0_; have BK438 := n1_; have GW438 := n2_; have GE438 := n3_; clear n0_ n1_ n2_ n3_; clear hb hbox hg))
  go_loopg [3, 4] k (fun kq v3 v4 w' => ∃ (x3_1 : List Int) (x4_1 : Int), v4 = .int .i64 x4_1 ∧ Aside0 (spec_poIdeals.l0 kq x3_1 x4_1 l0_0 = some r) ∧ Aside0 (kq ≤ k) ∧ Aside0 (Kd.R (Kd.int .i64) 3 w' w.heap.size (fun _ => True) v3 x3_1) ∧ Aside0 (w'.heap[gb438]? = some (.cells #[(.slice A0_0 l0_0.length c0_0)] 26 (0, 0))) ∧ Aside0 (Below w.heap.size w w'))
  case atStart => exact ⟨(([] : List Int)), (0), (by first | rfl | (simp; done) | (simp [*]; done)), H', ⟨Nat.le_refl _⟩, ⟨by first | exact Kd.R_nil _ _ _ _ _ | exact Kd.N_nil _ _ _ _ _ | exact Kd.V_nil _ _ _ _ _ | exact Kd.Q_nil _ _ _ _ _ | exact Kd.S_nil _ _ _ _ _⟩, ⟨uK BK438⟩, ⟨(vB HB)⟩⟩
  case round =>
    clear H'
    skip
    obtain ⟨x3_1, x4_1, rfl, HA, HK1, HO_3, BK438, HB⟩ := hrel
    cases gk with
    | zero => exact absurd HA.out (by simp [spec_poIdeals.l0])
    | succ k1 =>
      have H := HA.out
      clear HA
      simp only [spec_poIdeals.l0] at H
      obtain ⟨ji3, hji3⟩ : ∃ j_ : Int, (shl .i64 1 (l0_0.length : Int)) = j_ := ⟨_, rfl⟩
      replace H : (if x4_1 < (ji3) then ((spec_poIdeal.f k1 l0_0 x4_1).bind fun t439 => (if t439 = true then (if x3_1.length < 17592186044416 then (spec_poIdeals.l0 k1 (x3_1 ++ [x4_1]) (wrap64 (x4_1 + 1)) l0_0) else (none)) else (spec_poIdeals.l0 k1 x3_1 (wrap64 (x4_1 + 1)) l0_0))) else (some x3_1)) = some r := by first | (rw [hji3] at H; exact H) | (simp only [hji3] at H ⊢; exact H)
      have hji3_ : (IntKind.i64.wrap (1 * 2 ^ min (l0_0.length : Int).toNat 64)) = ji3 := hji3
      have hji3z : (l0_0.length : Int) ≤ 64 → (IntKind.i64.wrap (1 * 2 ^ (l0_0.length : Int).toNat)) = ji3 := shl_small hji3
      have hji3p : (IntKind.i64.wrap (1 * 2 ^ min l0_0.length 64)) = ji3 := hji3_
      have hji3q : (l0_0.length : Int) ≤ 64 → (IntKind.i64.wrap (1 * 2 ^ l0_0.length)) = ji3 := hji3z
      have hji3r : (IntKind.i64.wrap (2 ^ min l0_0.length 64)) = ji3 := by have h_ := hji3p; rw [Int.one_mul] at h_; exact h_
      have hji3s : (l0_0.length : Int) ≤ 64 → (IntKind.i64.wrap (2 ^ l0_0.length)) = ji3 := fun hle_ => by have h_ := hji3q hle_; rw [Int.one_mul] at h_; exact h_
      have hji3u : (IntKind.i64.wrap (2 ^ min (l0_0.length : Int).toNat 64)) = ji3 := by have h_ := hji3_; rw [Int.one_mul] at h_; exact h_
      have hji3v : (l0_0.length : Int) ≤ 64 → (IntKind.i64.wrap (2 ^ (l0_0.length : Int).toNat)) = ji3 := fun hle_ => by have h_ := hji3z hle_; rw [Int.one_mul] at h_; exact h_
      have hji3y : (wrap64 (1 * 2 ^ min (l0_0.length : Int).toNat 64)) = ji3 := (i64_w _).symm.trans hji3_
      have hji3x : (l0_0.length : Int) ≤ 64 → (wrap64 (1 * 2 ^ (l0_0.length : Int).toNat)) = ji3 := fun h_ => (i64_w _).symm.trans (hji3z h_)
      by_cases c4 : x4_1 < (ji3)
      · rw [if_pos c4] at H
        have c4b0 := decide_eq_true c4
        clear c4
        obtain ⟨t439, A5, H⟩ := bs H; (try dsimp only at H)
        by_cases c6 : t439 = true
        · subst c6
          rw [if_pos rfl] at H
          by_cases c7 : x3_1.length < 17592186044416
          · rw [if_pos c7] at H
            have LMc7 := Aside0.mk c7
            clear c7
            obtain ⟨y440, hy440⟩ : ∃ y_ : List Int, y_ = (x3_1 ++ [x4_1]) := ⟨_, rfl⟩
            replace H : (spec_poIdeals.l0 k1 y440 (wrap64 (x4_1 + 1)) l0_0) = some r := by first | (rw [hy440]; with_reducible exact H) | (have H2_ := (Option.bind_some _ _).symm.trans H; rw [hy440]; with_reducible exact H2_) | (have H2_ := (Option.bind_some _ _).symm.trans H; with_reducible exact H2_) | with_reducible exact H | (rw [hy440]; exact H) | exact H
            have Ny440 := Aside0.mk hy440
            clear hy440
            have H' := Aside0.mk H
            clear H
            have hcz8_0 := bC BK438
            have hfz8_0 := blk_frozen BK438.out 0
            go_wp2_with (first | (refine gA (some 15) Tryz.func278 #[.agg #[.slice A0_0 l0_0.length c0_0], .int .i64 x4_1] ?_; (with_reducible refine (spec_poIdeal.calls k1 _ _ l0_0 x4_1 true _ (uD HR0_0 HB) HC0_0.out A5.out).mono ?_); rintro e w9 ⟨rfl, hb⟩; refine ⟨_, rfl, ?_⟩; have n0_ := Aside0.mk (Kd.R_below (uR HO_3) hb); have n1_ := Aside0.mk (blk_below (uK BK438) hb); have n2_ := Aside0.mk (below_step (vB HB) hb); clear HO_3; clear BK438; clear HB; have HO_3 := n0_; have BK438 := n1_; have HB := n2_; clear n0_ n1_ n2_; (try clear hb)) | ((with_reducible refine gate_builtin (b := .append) (xs := #[.tmp 16, .tmp 18]) rfl ?_); at_builtin; refine Kd.R_append (Kd.int .i64) (w0 := w) w.heap.size rfl (.tmp 16) (.tmp 18) 24 3 (.int .i64 0) 8 rfl Tryz.underlying24 info3 rfl (by decide) (by omega) u3 x3_1 x4_1 [.int .i64 x4_1] (fun _ => True) (fun _ => False) rfl rfl ?aP (fun _ hk => hk.elim) ?aF ?aO ?aB ?aS ?aL ?_; (case aP => exact rfl); (case aB => exact (vB HB)); (case aF => exact (fun _ _ => trivial)); (case aO => exact (uR HO_3)); (case aS => exact (below_size (vB HB))); (case aL => have := LMc7.out; omega); intro v441 w10 ho hb hg hat; rw [← Ny440.out] at ho; have n0_ := Aside0.mk (blk_grown (uK BK438) hg (Kd.R_ne HO_3.out BK438.out (by decide))); have n1_ := Aside0.mk (hb); have n2_ := Aside0.mk (ho); clear BK438; clear HB; clear HO_3; have BK438 := n0_; have HB := n1_; have HO442 := n2_; clear n0_ n1_ n2_; clear ho hb hg hat))
            go_roundg k1
            case measure => have := HK1.out; omega
            case rel => exact ⟨(y440), (wrap64 (x4_1 + 1)), (by first | rfl | (simp; done) | (simp [*]; done)), H', ⟨by have := HK1.out; omega⟩, ⟨uR HO442⟩, ⟨uK BK438⟩, ⟨(vB HB)⟩⟩
          · rw [if_neg c7] at H
            exact absurd H (by simp)
        · replace c6 := Bool.eq_false_iff.mpr c6
          subst c6
          rw [if_neg (show ¬ (false = true) by decide)] at H
          have H' := Aside0.mk H
          clear H
          have hcz11_0 := bC BK438
          have hfz11_0 := blk_frozen BK438.out 0
          go_wp2_with (first | (refine gA (some 15) Tryz.func278 #[.agg #[.slice A0_0 l0_0.length c0_0], .int .i64 x4_1] ?_; (with_reducible refine (spec_poIdeal.calls k1 _ _ l0_0 x4_1 false _ (uD HR0_0 HB) HC0_0.out A5.out).mono ?_); rintro e w12 ⟨rfl, hb⟩; refine ⟨_, rfl, ?_⟩; have n0_ := Aside0.mk (Kd.R_below (uR HO_3) hb); have n1_ := Aside0.mk (blk_below (uK BK438) hb); have n2_ := Aside0.mk (below_step (vB HB) hb); clear HO_3; clear BK438; clear HB; have HO_3 := n0_; have BK438 := n1_; have HB := n2_; clear n0_ n1_ n2_; (try clear hb)))
          go_roundg k1
          case measure => have := HK1.out; omega
          case rel => exact ⟨(x3_1), (wrap64 (x4_1 + 1)), (by first | rfl | (simp; done) | (simp [*]; done)), H', ⟨by have := HK1.out; omega⟩, ⟨uR HO_3⟩, ⟨uK BK438⟩, ⟨(vB HB)⟩⟩
      · rw [if_neg c4] at H
        have c4b0 := decide_eq_false c4
        clear c4
        obtain rfl := Option.some.inj H
        have hcz13_0 := bC BK438
        have hfz13_0 := blk_frozen BK438.out 0
        go_wp2
        go_ret
        exact ⟨_, by first | rfl | (simp [errW_none, errW_some] <;> rfl) | (simp only [← hji3]; first | rfl | (simp [errW_none, errW_some] <;> rfl)) | (simp [*, errW_none, errW_some] <;> rfl), uR HO_3, (vB HB)⟩
end Go.Proofs.YtkgngggppcmpfaaGreat.L
end
