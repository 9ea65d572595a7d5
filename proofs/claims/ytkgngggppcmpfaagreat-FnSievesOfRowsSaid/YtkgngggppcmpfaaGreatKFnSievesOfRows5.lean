/- Laws about the given program: the law FnSievesOfRows answers true for every input that its row lets in; no condition is added to the given statement. Contracts of the Go functions that it reaches, and the plain proof over lists. -/
import Derived.Test.YtkgngggppcmpfaaGreatWFnSievesOfRows0
import Derived.Test.YtkgngggppcmpfaaGreatKFnSievesOfRows0
import Derived.Test.YtkgngggppcmpfaaGreatKFnSievesOfRows1
import Derived.Test.YtkgngggppcmpfaaGreatKFnSievesOfRows2
import Derived.Test.YtkgngggppcmpfaaGreatKFnSievesOfRows3
import Derived.Test.YtkgngggppcmpfaaGreatKFnSievesOfRows4
section
namespace Go.Proofs.YtkgngggppcmpfaaGreat.L
open Go.RowKit Go.Proofs.YtkgngggppcmpfaaGreatW.PrintWords Go.Proofs.YtkgngggppcmpfaaGreatW.PrintLast Go.Proofs.YtkgngggppcmpfaaGreatW.PrintMore Go.Proofs.YtkgngggppcmpfaaGreat.X
attribute [local go_sem] max2_int min2_int max_two min_two max_three min_three max_four min_four
set_option linter.unusedVariables false
set_option linter.unusedSimpArgs false
mutual
def spec_RowStabilizers.l0 : Nat → Int → Int → List Int → List Int → List Int → Int → Int → List Int → Option (List Int × Bool)
  | 0, _, _, _, _, _, _, _, _ => none
  | k + 1, x0, x1, x7, x8, x21, x22, x23, x521000 => if x23 < x22 then (if 0 ≤ x23 then (if x23 < (x21.length : Int) then ((spec_l1Has.f k x8 (rd x21 x23)).bind fun t525 => (if t525 = true then (spec_RowStabilizers.l0 k x0 x1 x7 x8 x21 x22 (wrap64 (x23 + 1)) x521000) else (spec_RowStabilizers.l1 k x0 x1 x7 x8 (rd x21 x23) 0 (rd x21 x23) x21 x22 x23 x521000))) else (none)) else (none)) else (some (x7, true))
def spec_RowStabilizers.l1 : Nat → Int → Int → List Int → List Int → Int → Int → Int → List Int → Int → Int → List Int → Option (List Int × Bool)
  | 0, _, _, _, _, _, _, _, _, _, _, _ => none
  | k + 1, x0, x1, x7, x8, x10, x11, x12, x21, x22, x23, x521000 => if x11 = 0 then (if x8.length < 17592186044416 then ((spec_svRow.f k x521000 x12).bind fun t529 => (spec_RowStabilizers.l1 k x0 x1 x7 (x8 ++ [x12]) x10 (wrap64 (x11 + 1)) t529 x21 x22 x23 x521000)) else (none)) else (if x12 = x10 then ((spec_svPut.f k x7 (wrap64 (Int.tdiv (wrap64 (x0 + x1)) x11))).bind fun t530 => (spec_RowStabilizers.l0 k x0 x1 t530 x8 x21 x22 (wrap64 (x23 + 1)) x521000)) else (if x8.length < 17592186044416 then ((spec_svRow.f k x521000 x12).bind fun t536 => (spec_RowStabilizers.l1 k x0 x1 x7 (x8 ++ [x12]) x10 (wrap64 (x11 + 1)) t536 x21 x22 x23 x521000)) else (none)))
end
def spec_RowStabilizers.f (k : Nat) (a0 : Int) (a1 : Int) : Option (List Int × Bool) := (spec_shSides.f a0 a1).bind fun t516 => (if t516 = true then ((spec_poRectangle.f k a0 a1).bind fun t517 => ((spec_poIdeals.f k t517).bind fun t521 => (spec_RowStabilizers.l0 k a0 a1 ([] : List Int) ([] : List Int) t521 (t521.length : Int) 0 t517))) else (some (([] : List Int), false)))
theorem spec_RowStabilizers.mono_l : ∀ k, (∀ y0 y1 y2 y3 y4 y5 y6 y7, LeO (spec_RowStabilizers.l0 k y0 y1 y2 y3 y4 y5 y6 y7) (spec_RowStabilizers.l0 (k + 1) y0 y1 y2 y3 y4 y5 y6 y7)) ∧ (∀ y0 y1 y2 y3 y4 y5 y6 y7 y8 y9 y10, LeO (spec_RowStabilizers.l1 k y0 y1 y2 y3 y4 y5 y6 y7 y8 y9 y10) (spec_RowStabilizers.l1 (k + 1) y0 y1 y2 y3 y4 y5 y6 y7 y8 y9 y10))
  | 0 => ⟨fun _ _ _ _ _ _ _ _ r h => by simp [spec_RowStabilizers.l0] at h, fun _ _ _ _ _ _ _ _ _ _ _ r h => by simp [spec_RowStabilizers.l1] at h⟩
  | k + 1 => by
    obtain ⟨ih0, ih1⟩ := spec_RowStabilizers.mono_l k
    refine ⟨?_, ?_⟩
    all_goals
      intros
      first | unfold spec_RowStabilizers.l0 | unfold spec_RowStabilizers.l1
      repeat' (with_reducible first | apply ih0 | apply ih1 | apply spec_l1Has.mono | apply spec_poIdeals.mono | apply spec_poRectangle.mono | apply spec_svPut.mono | apply spec_svRow.mono | exact LeO.refl _ | exact LeO.none _ | refine LeO.ite ?_ ?_ | refine LeO.bind ?_ (fun _ => ?_))
theorem spec_RowStabilizers.mono : ∀ a0 a1 k, LeO (spec_RowStabilizers.f k a0 a1) (spec_RowStabilizers.f (k + 1) a0 a1) := by
  intro a0 a1 k
  obtain ⟨ih0, ih1⟩ := spec_RowStabilizers.mono_l k
  unfold spec_RowStabilizers.f
  repeat' (with_reducible first | apply ih0 | apply ih1 | apply spec_l1Has.mono | apply spec_poIdeals.mono | apply spec_poRectangle.mono | apply spec_svPut.mono | apply spec_svRow.mono | exact LeO.refl _ | exact LeO.none _ | refine LeO.ite ?_ ?_ | refine LeO.bind ?_ (fun _ => ?_))
set_option maxHeartbeats 8000000 in
set_option maxRecDepth 100000 in
theorem spec_RowStabilizers.calls (k : Nat) (a0 : Int) (a1 : Int) (r1 : List Int) (r2 : Bool) (w : World) (h : spec_RowStabilizers.f k a0 a1 = some (r1, r2)) :
    Calls Tryz.prog 63 #[.int .i64 a0, .int .i64 a1] w fun e w' => ∃ v0_ : Value, e = .returned (.tuple #[v0_, .bool r2]) ∧ Kd.R (Kd.int .i64) 3 w' w.heap.size (fun _ => True) v0_ r1 ∧ Below w.heap.size w w' := by
  have hu26 := Tryz.underlying26
  have HB := Aside0.mk (Below.refl w.heap.size w)
  have H : ((spec_shSides.f a0 a1).bind fun t516 => (if t516 = true then ((spec_poRectangle.f k a0 a1).bind fun t517 => ((spec_poIdeals.f k t517).bind fun t521 => (spec_RowStabilizers.l0 k a0 a1 ([] : List Int) ([] : List Int) t521 (t521.length : Int) 0 t517))) else (some (([] : List Int), false)))) = some (r1, r2) := h
  clear h
  obtain ⟨t516, A3, H⟩ := bs H; (try dsimp only at H)
  by_cases c4 : t516 = true
  · subst c4
    rw [if_pos rfl] at H
    obtain ⟨t517, A5, H⟩ := bs H; (try dsimp only at H)
    obtain ⟨t521, A6, H⟩ := bs H; (try dsimp only at H)
    have H' := Aside0.mk H
    clear H
    go_enter Tryz.func63, Tryz.ntmps63
    go_wp2_with (first | (refine gA (some 15) Tryz.func203 #[.int .i64 a0, .int .i64 a1] ?_; (with_reducible refine (spec_shSides.calls a0 a1 true _ A3.out).mono ?_); rintro e w' ⟨rfl, ⟨nd, rfl⟩⟩; refine ⟨_, rfl, ?_⟩) | (refine gA (some 19) Tryz.func209 #[.int .i64 a0, .int .i64 a1] ?_; (with_reducible refine (spec_poRectangle.calls k a0 a1 t517 _ A5.out).mono ?_); rintro e w7 ⟨v518, rfl, ho0, hb⟩; refine ⟨_, rfl, ?_⟩; have n0_ := Aside0.mk (Kd.R_lower ho0 (below_size (uB HB))); have n1_ := Aside0.mk (below_step (uB HB) hb); clear HB; have HO519 := n0_; have HB := n1_; clear n0_ n1_; (try clear hb ho0)) | (refine bE (N := 6) (cs := #[.slice none 0 0]) (t := 26) ?_; intro gb520 hg w8 hbox hb; have n0_ := Aside0.mk (Kd.R_below (uR HO519) hb); have n1_ := Aside0.mk (below_step (uB HB) hb); have n2_ := Aside0.mk (hbox); have n3_ := Aside0.mk ((by rw [hg]; exact (below_size (uB HB)) : w.heap.size ≤ gb520)); have n4_ := Aside0.mk ((by rw [hg]; exact (below_size (uB HB)) : w.heap.size ≤ gb520)); clear HO519; clear HB; have HO519 := n0_; have HB := n1_; have BK520 := n2_; have GW520 := n3_; have GE520 := n4_; clear n0_ n1_ n2_ n3_ n4_; clear hb hbox hg; obtain ⟨Ao9, co9, eo9⟩ := Kd.R_slice HO519.out; subst eo9; have hcz10_0 := bC BK520; have hfz10_0 := blk_frozen BK520.out 0) | (refine gA (some 21) Tryz.func171 #[.agg #[.slice Ao9 t517.length co9]] ?_; (with_reducible refine (spec_poIdeals.calls k _ _ t517 t521 _ ?side1 ?side2 A6.out).mono ?_); (case side1 => refine (Kd.R_reads' (e := 3) (base := w.heap.size) (ok := fun k_ => True) (n := t517.length) (c := co9) ?_).2.2; exact (rF HO519 BK520 (.slice Ao9 t517.length co9))); (case side2 => exact (Kd.R_reads' HO519.out).2.1); rintro e w11 ⟨v522, rfl, ho0, hb⟩; refine ⟨_, rfl, ?_⟩; have n0_ := Aside0.mk (Kd.R_elder' (rF HO519 BK520 (.slice Ao9 t517.length co9)) (Kd.R_base ho0) hb); have n1_ := Aside0.mk (Kd.R_lower (Kd.R_new' ho0 (Kd.R_lt (rF HO519 BK520 (.slice Ao9 t517.length co9)))) (below_size (vB HB))); have n2_ := Aside0.mk (blk_below (g := gb520) (o := .cells #[.slice Ao9 t517.length co9] 26 (0, 0)) bP hb); have n3_ := Aside0.mk (below_step (vB HB) hb); clear HO519; clear BK520; clear HB; have HO519 := n0_; have HO523 := n1_; have BK520 := n2_; have HB := n3_; clear n0_ n1_ n2_ n3_; (try clear hb ho0); obtain ⟨Ao12, co12, eo12⟩ := Kd.R_slice HO523.out; subst eo12))
    go_loopg [7, 8, 23] k (fun kq v7 v8 v23 w' => ∃ (x7_1 : List Int) (x8_1 : List Int) (x23_1 : Int), v23 = .int .i64 x23_1 ∧ Aside0 (spec_RowStabilizers.l0 kq a0 a1 x7_1 x8_1 t521 (t521.length : Int) x23_1 t517 = some (r1, r2)) ∧ Aside0 (kq ≤ k) ∧ Aside0 (Kd.R (Kd.int .i64) 3 w' w.heap.size (fun k_ => some k_ ≠ (v8 : Value).ownBlock ∧ some k_ ≠ ((.slice Ao12 t521.length co12) : Value).ownBlock ∧ some k_ ≠ ((.slice Ao9 t517.length co9) : Value).ownBlock) v7 x7_1) ∧ Aside0 (Kd.R (Kd.int .i64) 3 w' w.heap.size (fun k_ => some k_ ≠ (v7 : Value).ownBlock ∧ some k_ ≠ ((.slice Ao12 t521.length co12) : Value).ownBlock ∧ some k_ ≠ ((.slice Ao9 t517.length co9) : Value).ownBlock) v8 x8_1) ∧ Aside0 (Kd.R (Kd.int .i64) 3 w' w.heap.size (fun k_ => some k_ ≠ (v7 : Value).ownBlock ∧ some k_ ≠ (v8 : Value).ownBlock ∧ some k_ ≠ ((.slice Ao9 t517.length co9) : Value).ownBlock) (.slice Ao12 t521.length co12) t521) ∧ Aside0 (Kd.R (Kd.int .i64) 3 w' w.heap.size (fun k_ => some k_ ≠ (v7 : Value).ownBlock ∧ some k_ ≠ (v8 : Value).ownBlock ∧ some k_ ≠ ((.slice Ao12 t521.length co12) : Value).ownBlock) (.slice Ao9 t517.length co9) t517) ∧ Aside0 (w'.heap[gb520]? = some (.cells #[(.slice Ao9 t517.length co9)] 26 (0, 0))) ∧ Aside0 (Below w.heap.size w w'))
    case atStart => exact ⟨(([] : List Int)), (([] : List Int)), (0), (by first | rfl | (simp; done) | (simp [*]; done)), H', ⟨Nat.le_refl _⟩, ⟨by first | exact Kd.R_nil _ _ _ _ _ | exact Kd.N_nil _ _ _ _ _ | exact Kd.V_nil _ _ _ _ _ | exact Kd.Q_nil _ _ _ _ _ | exact Kd.S_nil _ _ _ _ _⟩, ⟨by first | exact Kd.R_nil _ _ _ _ _ | exact Kd.N_nil _ _ _ _ _ | exact Kd.V_nil _ _ _ _ _ | exact Kd.Q_nil _ _ _ _ _ | exact Kd.S_nil _ _ _ _ _⟩, ⟨Kd.R_mono (uR HO523) (fun _ hk => ⟨(by simp [Value.ownBlock]), ⟨(by simp [Value.ownBlock]), hk.2⟩⟩)⟩, ⟨Kd.R_mono (uR HO519) (fun _ hk => ⟨(by simp [Value.ownBlock]), ⟨(by simp [Value.ownBlock]), hk.2⟩⟩)⟩, ⟨uK BK520⟩, ⟨(vB HB)⟩⟩
    case round =>
      clear H'
      try clear hcz10_0 hfz10_0
      obtain ⟨x7_1, x8_1, x23_1, rfl, HA, HK1, HO_7, HO_8, HO_21, HO_521000, BK520, HB⟩ := hrel
      cases gk with
      | zero => exact absurd HA.out (by simp [spec_RowStabilizers.l0])
      | succ k1 =>
        have H := HA.out
        clear HA
        simp only [spec_RowStabilizers.l0] at H
        by_cases c13 : x23_1 < (t521.length : Int)
        · rw [if_pos c13] at H
          have c13b0 := decide_eq_true c13
          clear c13
          by_cases c14 : 0 ≤ x23_1
          · rw [if_pos c14] at H
            have c14b0 := decide_eq_true c14
            clear c14
            by_cases c15 : x23_1 < (t521.length : Int)
            · rw [if_pos c15] at H
              have c15b0 := decide_eq_true c15
              clear c15
              obtain ⟨t525, A16, H⟩ := bs H; (try dsimp only at H)
              by_cases c17 : t525 = true
              · subst c17
                rw [if_pos rfl] at H
                have H' := Aside0.mk H
                clear H
                have p524 : 0 ≤ (x23_1 : Int) := of_decide_eq_true (by first | (with_reducible assumption) | assumption)
                have q524 : x23_1 < (t521.length : Int) := of_decide_eq_true (by first | (with_reducible assumption) | assumption)
                obtain ⟨ad524, e524, hx524_0⟩ := Kd.at_int (Kd.R_reads' HO_21.out).2.2 x23_1 p524 q524
                cases e524
                replace p524 := eq_true p524
                replace q524 := eq_true q524
                obtain ⟨Ao18, co18, eo18⟩ := Kd.R_slice HO_8.out
                subst eo18
                go_wp2_with (first | (refine gA (some 29) Tryz.func210 #[.slice Ao18 x8_1.length co18, .int .i64 (rd t521 x23_1)] ?_; (with_reducible refine (spec_l1Has.calls k1 _ _ x8_1 (rd t521 x23_1) true _ (uE HO_8) ?side2 A16.out).mono ?_); (case side2 => exact (Kd.R_reads' HO_8.out).2.1); rintro e w' ⟨rfl, ⟨nd, rfl⟩⟩; refine ⟨_, rfl, ?_⟩))
                go_roundg k1
                case measure => have := HK1.out; omega
                case rel => exact ⟨(x7_1), (x8_1), (wrap64 (x23_1 + 1)), (by first | rfl | (simp; done) | (simp [*]; done)), H', ⟨by have := HK1.out; omega⟩, ⟨uR HO_7⟩, ⟨uR HO_8⟩, ⟨uR HO_21⟩, ⟨uR HO_521000⟩, ⟨uK BK520⟩, ⟨(vB HB)⟩⟩
              · replace c17 := Bool.eq_false_iff.mpr c17
                subst c17
                rw [if_neg (show ¬ (false = true) by decide)] at H
                have H' := Aside0.mk H
                clear H
                have p524 : 0 ≤ (x23_1 : Int) := of_decide_eq_true (by first | (with_reducible assumption) | assumption)
                have q524 : x23_1 < (t521.length : Int) := of_decide_eq_true (by first | (with_reducible assumption) | assumption)
                obtain ⟨ad524, e524, hx524_0⟩ := Kd.at_int (Kd.R_reads' HO_21.out).2.2 x23_1 p524 q524
                cases e524
                replace p524 := eq_true p524
                replace q524 := eq_true q524
                obtain ⟨Ao19, co19, eo19⟩ := Kd.R_slice HO_8.out
                subst eo19
                go_wp2_with (first | (refine gA (some 29) Tryz.func210 #[.slice Ao19 x8_1.length co19, .int .i64 (rd t521 x23_1)] ?_; (with_reducible refine (spec_l1Has.calls k1 _ _ x8_1 (rd t521 x23_1) false _ (uE HO_8) ?side2 A16.out).mono ?_); (case side2 => exact (Kd.R_reads' HO_8.out).2.1); rintro e w' ⟨rfl, ⟨nd, rfl⟩⟩; refine ⟨_, rfl, ?_⟩))
                go_loopg [8, 11, 12] k1 (fun kq v8 v11 v12 w' => ∃ (x8_2 : List Int) (x11_2 : Int) (x12_2 : Int), v11 = .int .i64 x11_2 ∧ v12 = .int .i64 x12_2 ∧ Aside0 (spec_RowStabilizers.l1 kq a0 a1 x7_1 x8_2 (rd t521 x23_1) x11_2 x12_2 t521 (t521.length : Int) x23_1 t517 = some (r1, r2)) ∧ Aside0 (kq ≤ k1) ∧ Aside0 (Kd.R (Kd.int .i64) 3 w' w.heap.size (fun k_ => some k_ ≠ (v8 : Value).ownBlock ∧ some k_ ≠ ((.slice (some ad524) t521.length co12) : Value).ownBlock ∧ some k_ ≠ ((.slice Ao9 t517.length co9) : Value).ownBlock) u7 x7_1) ∧ Aside0 (Kd.R (Kd.int .i64) 3 w' w.heap.size (fun k_ => some k_ ≠ (u7 : Value).ownBlock ∧ some k_ ≠ ((.slice (some ad524) t521.length co12) : Value).ownBlock ∧ some k_ ≠ ((.slice Ao9 t517.length co9) : Value).ownBlock) v8 x8_2) ∧ Aside0 (Kd.R (Kd.int .i64) 3 w' w.heap.size (fun k_ => some k_ ≠ (u7 : Value).ownBlock ∧ some k_ ≠ (v8 : Value).ownBlock ∧ some k_ ≠ ((.slice Ao9 t517.length co9) : Value).ownBlock) (.slice (some ad524) t521.length co12) t521) ∧ Aside0 (Kd.R (Kd.int .i64) 3 w' w.heap.size (fun k_ => some k_ ≠ (u7 : Value).ownBlock ∧ some k_ ≠ (v8 : Value).ownBlock ∧ some k_ ≠ ((.slice (some ad524) t521.length co12) : Value).ownBlock) (.slice Ao9 t517.length co9) t517) ∧ Aside0 (w'.heap[gb520]? = some (.cells #[(.slice Ao9 t517.length co9)] 26 (0, 0))) ∧ Aside0 (Below w.heap.size w w'))
                case atStart => exact ⟨(x8_1), (0), (rd t521 x23_1), (by first | rfl | (simp; done) | (simp [*]; done)), (by first | rfl | (simp; done) | (simp [*]; done)), H', ⟨Nat.le_refl _⟩, ⟨uR HO_7⟩, ⟨uR HO_8⟩, ⟨uR HO_21⟩, ⟨uR HO_521000⟩, ⟨uK BK520⟩, ⟨(vB HB)⟩⟩
                case round =>
                  clear H'
                  try clear c13b0 c14b0 c15b0 hx524_0 p524 q524
                  obtain ⟨x8_2, x11_2, x12_2, rfl, rfl, HA, HK2, HO_7, HO_8, HO_21, HO_521000, BK520, HB⟩ := hrel
                  cases gk with
                  | zero => exact absurd HA.out (by simp [spec_RowStabilizers.l1])
                  | succ k2 =>
                    have H := HA.out
                    clear HA
                    simp only [spec_RowStabilizers.l1] at H
                    by_cases c20 : x11_2 = 0
                    · rw [if_pos c20] at H
                      have c20b0 : (x11_2 == 0) = true := beq_iff_eq.mpr c20
                      have c20b1 : (x11_2 != 0) = false := bne_eq_false_iff_eq.mpr c20
                      clear c20
                      by_cases c21 : x8_2.length < 17592186044416
                      · rw [if_pos c21] at H
                        have LMc21 := Aside0.mk c21
                        clear c21
                        obtain ⟨y526, hy526⟩ : ∃ y_ : List Int, y_ = (x8_2 ++ [x12_2]) := ⟨_, rfl⟩
                        replace H : ((spec_svRow.f k2 t517 x12_2).bind fun t529 => (spec_RowStabilizers.l1 k2 a0 a1 x7_1 y526 (rd t521 x23_1) (wrap64 (x11_2 + 1)) t529 t521 (t521.length : Int) x23_1 t517)) = some (r1, r2) := by first | (rw [hy526]; with_reducible exact H) | (have H2_ := (Option.bind_some _ _).symm.trans H; rw [hy526]; with_reducible exact H2_) | (have H2_ := (Option.bind_some _ _).symm.trans H; with_reducible exact H2_) | with_reducible exact H | (rw [hy526]; exact H) | exact H
                        have Ny526 := Aside0.mk hy526
                        clear hy526
                        obtain ⟨t529, A22, H⟩ := bs H; (try dsimp only at H)
                        have H' := Aside0.mk H
                        clear H
                        go_wp2_with (first | ((with_reducible refine gate_builtin (b := .append) (xs := #[.tmp 41, .tmp 43]) rfl ?_); at_builtin; refine Kd.R_append (Kd.int .i64) (w0 := w) w.heap.size rfl (.tmp 41) (.tmp 43) 24 3 (.int .i64 0) 8 rfl Tryz.underlying24 info3 rfl (by decide) (by omega) u8 x8_2 x12_2 [.int .i64 x12_2] (fun k_ => some k_ ≠ (u7 : Value).ownBlock ∧ some k_ ≠ (.slice (some ad524) t521.length co12 : Value).ownBlock ∧ some k_ ≠ (.slice Ao9 t517.length co9 : Value).ownBlock) (fun _ => False) rfl rfl ?aP (fun _ hk => hk.elim) ?aF ?aO ?aB ?aS ?aL ?_; (case aP => exact rfl); (case aB => exact (vB HB)); (case aF => exact (fun k_ hk => ⟨Kd.fresh' (Kd.R_lt (uR HO_7)) k_ hk, Kd.fresh' (Kd.R_lt (uR HO_21)) k_ hk, Kd.fresh' (Kd.R_lt (uR HO_521000)) k_ hk⟩)); (case aO => exact (uR HO_8)); (case aS => exact (below_size (vB HB))); (case aL => have := LMc21.out; omega); intro v527 w23 ho hb hg hat; rw [← Ny526.out] at ho; have n0_ := Aside0.mk (Kd.R_after (ok := (fun k_ => some k_ ≠ (.slice (some ad524) t521.length co12 : Value).ownBlock ∧ some k_ ≠ (.slice Ao9 t517.length co9 : Value).ownBlock)) (Kd.R_mono (uR HO_7) (fun _ hk => ⟨⟨hk.2.1, hk.2.2⟩, hk.1⟩)) hg hat); have n1_ := Aside0.mk (Kd.R_after (ok := (fun k_ => some k_ ≠ (u7 : Value).ownBlock ∧ some k_ ≠ (.slice Ao9 t517.length co9 : Value).ownBlock)) (Kd.R_mono (uR HO_21) (fun _ hk => ⟨⟨hk.1, hk.2.2⟩, hk.2.1⟩)) hg hat); have n2_ := Aside0.mk (Kd.R_after (ok := (fun k_ => some k_ ≠ (u7 : Value).ownBlock ∧ some k_ ≠ (.slice (some ad524) t521.length co12 : Value).ownBlock)) (Kd.R_mono (uR HO_521000) (fun _ hk => ⟨⟨hk.1, hk.2.2⟩, hk.2.1⟩)) hg hat); have n3_ := Aside0.mk (blk_grown (uK BK520) hg (Kd.R_ne HO_8.out BK520.out (by decide))); have n4_ := Aside0.mk (hb); have n5_ := Aside0.mk (ho); clear HO_7; clear HO_21; clear HO_521000; clear BK520; clear HB; clear HO_8; have HO_7 := n0_; have HO_21 := n1_; have HO_521000 := n2_; have BK520 := n3_; have HB := n4_; have HO528 := n5_; clear n0_ n1_ n2_ n3_ n4_ n5_; clear ho hb hg hat; have hcz24_0 := bC BK520; have hfz24_0 := blk_frozen BK520.out 0) | (refine gA (some 40) Tryz.func211 #[.agg #[.slice Ao9 t517.length co9], .int .i64 x12_2] ?_; (with_reducible refine (spec_svRow.calls k2 _ _ t517 x12_2 t529 _ (uE HO_521000) ?side2 A22.out).mono ?_); (case side2 => exact (Kd.R_reads' HO_521000.out).2.1); rintro e w25 ⟨rfl, hb⟩; refine ⟨_, rfl, ?_⟩; have n0_ := Aside0.mk (Kd.R_below (uR HO_7) hb); have n1_ := Aside0.mk (Kd.R_below (uR HO_21) hb); have n2_ := Aside0.mk (Kd.R_below (uR HO_521000) hb); have n3_ := Aside0.mk (Kd.R_below (uR HO528) hb); have n4_ := Aside0.mk (blk_below (uK BK520) hb); have n5_ := Aside0.mk (below_step (vB HB) hb); clear HO_7; clear HO_21; clear HO_521000; clear HO528; clear BK520; clear HB; have HO_7 := n0_; have HO_21 := n1_; have HO_521000 := n2_; have HO528 := n3_; have BK520 := n4_; have HB := n5_; clear n0_ n1_ n2_ n3_ n4_ n5_; (try clear hb)))
                        go_roundg k2
                        case measure => have := HK1.out; have := HK2.out; omega
                        case rel => exact ⟨(y526), (wrap64 (x11_2 + 1)), (t529), (by first | rfl | (simp; done) | (simp [*]; done)), (by first | rfl | (simp; done) | (simp [*]; done)), H', ⟨by have := HK1.out; have := HK2.out; omega⟩, ⟨Kd.R_mono (uR HO_7) (fun _ hk => ⟨hk.2, ⟨hk.1.1, hk.1.2⟩⟩)⟩, ⟨uR HO528⟩, ⟨Kd.R_mono (uR HO_21) (fun _ hk => ⟨hk.1.1, ⟨hk.2, hk.1.2⟩⟩)⟩, ⟨Kd.R_mono (uR HO_521000) (fun _ hk => ⟨hk.1.1, ⟨hk.2, hk.1.2⟩⟩)⟩, ⟨uK BK520⟩, ⟨(vB HB)⟩⟩
                      · rw [if_neg c21] at H
                        exact absurd H (by simp)
                    · rw [if_neg c20] at H
                      have c20b0 : (x11_2 == 0) = false := beq_eq_false_iff_ne.mpr c20
                      have c20b1 : (x11_2 != 0) = true := bne_iff_ne.mpr c20
                      by_cases c26 : x12_2 = (rd t521 x23_1)
                      · rw [if_pos c26] at H
                        have c26b0 : (x12_2 == (rd t521 x23_1)) = true := beq_iff_eq.mpr c26
                        have c26b1 : (x12_2 != (rd t521 x23_1)) = false := bne_eq_false_iff_eq.mpr c26
                        clear c26
                        obtain ⟨t530, A27, H⟩ := bs H; (try dsimp only at H)
                        have H' := Aside0.mk H
                        clear H
                        obtain ⟨Ao28, co28, eo28⟩ := Kd.R_slice HO_7.out
                        subst eo28
                        go_wp2_with (first | (refine gA (some 53) Tryz.func212 #[.slice Ao28 x7_1.length co28, .int .i64 (wrap64 (Int.tdiv (wrap64 (a0 + a1)) x11_2))] ?_; (with_reducible refine (spec_svPut.calls k2 _ _ x7_1 (wrap64 (Int.tdiv (wrap64 (a0 + a1)) x11_2)) t530 _ (uE HO_7) ?side2 A27.out).mono ?_); (case side2 => exact (Kd.R_reads' HO_7.out).2.1); rintro e w29 ⟨v531, rfl, ho0, hb⟩; refine ⟨_, rfl, ?_⟩; have n0_ := Aside0.mk (Kd.R_elder' (uR HO_7) (Kd.R_base ho0) hb); have n1_ := Aside0.mk (Kd.R_elder' (uR HO_8) (Kd.R_base ho0) hb); have n2_ := Aside0.mk (Kd.R_elder' (uR HO_21) (Kd.R_base ho0) hb); have n3_ := Aside0.mk (Kd.R_elder' (uR HO_521000) (Kd.R_base ho0) hb); have n4_ := Aside0.mk (Kd.R_lower (Kd.R_new' (Kd.R_new' (Kd.R_new' (Kd.R_new' ho0 (Kd.R_lt (uR HO_7))) (Kd.R_lt (uR HO_8))) (Kd.R_lt (uR HO_21))) (Kd.R_lt (uR HO_521000))) (below_size (vB HB))); have n5_ := Aside0.mk (blk_below (uK BK520) hb); have n6_ := Aside0.mk (below_step (vB HB) hb); clear HO_7; clear HO_8; clear HO_21; clear HO_521000; clear BK520; clear HB; have HO_7 := n0_; have HO_8 := n1_; have HO_21 := n2_; have HO_521000 := n3_; have HO532 := n4_; have BK520 := n5_; have HB := n6_; clear n0_ n1_ n2_ n3_ n4_ n5_ n6_; (try clear hb ho0)))
                        go_roundg k2
                        case measure => have := HK1.out; have := HK2.out; omega
                        case rel => exact ⟨(t530), (x8_2), (wrap64 (x23_1 + 1)), (by first | rfl | (simp; done) | (simp [*]; done)), H', ⟨by have := HK1.out; have := HK2.out; omega⟩, ⟨Kd.R_mono (uR HO532) (fun _ hk => ⟨hk.1.1.2, ⟨hk.1.2, hk.2⟩⟩)⟩, ⟨Kd.R_mono (uR HO_8) (fun _ hk => ⟨hk.2, ⟨hk.1.2.1, hk.1.2.2⟩⟩)⟩, ⟨Kd.R_mono (uR HO_21) (fun _ hk => ⟨hk.2, ⟨hk.1.2.1, hk.1.2.2⟩⟩)⟩, ⟨Kd.R_mono (uR HO_521000) (fun _ hk => ⟨hk.2, ⟨hk.1.2.1, hk.1.2.2⟩⟩)⟩, ⟨uK BK520⟩, ⟨(vB HB)⟩⟩
                      · rw [if_neg c26] at H
                        have c26b0 : (x12_2 == (rd t521 x23_1)) = false := beq_eq_false_iff_ne.mpr c26
                        have c26b1 : (x12_2 != (rd t521 x23_1)) = true := bne_iff_ne.mpr c26
                        by_cases c30 : x8_2.length < 17592186044416
                        · rw [if_pos c30] at H
                          have LMc30 := Aside0.mk c30
                          clear c30
                          obtain ⟨y533, hy533⟩ : ∃ y_ : List Int, y_ = (x8_2 ++ [x12_2]) := ⟨_, rfl⟩
                          replace H : ((spec_svRow.f k2 t517 x12_2).bind fun t536 => (spec_RowStabilizers.l1 k2 a0 a1 x7_1 y533 (rd t521 x23_1) (wrap64 (x11_2 + 1)) t536 t521 (t521.length : Int) x23_1 t517)) = some (r1, r2) := by first | (rw [hy533]; with_reducible exact H) | (have H2_ := (Option.bind_some _ _).symm.trans H; rw [hy533]; with_reducible exact H2_) | (have H2_ := (Option.bind_some _ _).symm.trans H; with_reducible exact H2_) | with_reducible exact H | (rw [hy533]; exact H) | exact H
                          have Ny533 := Aside0.mk hy533
                          clear hy533
                          obtain ⟨t536, A31, H⟩ := bs H; (try dsimp only at H)
                          have H' := Aside0.mk H
                          clear H
                          go_wp2_with (first | ((with_reducible refine gate_builtin (b := .append) (xs := #[.tmp 41, .tmp 43]) rfl ?_); at_builtin; refine Kd.R_append (Kd.int .i64) (w0 := w) w.heap.size rfl (.tmp 41) (.tmp 43) 24 3 (.int .i64 0) 8 rfl Tryz.underlying24 info3 rfl (by decide) (by omega) u8 x8_2 x12_2 [.int .i64 x12_2] (fun k_ => some k_ ≠ (u7 : Value).ownBlock ∧ some k_ ≠ (.slice (some ad524) t521.length co12 : Value).ownBlock ∧ some k_ ≠ (.slice Ao9 t517.length co9 : Value).ownBlock) (fun _ => False) rfl rfl ?aP (fun _ hk => hk.elim) ?aF ?aO ?aB ?aS ?aL ?_; (case aP => exact rfl); (case aB => exact (vB HB)); (case aF => exact (fun k_ hk => ⟨Kd.fresh' (Kd.R_lt (uR HO_7)) k_ hk, Kd.fresh' (Kd.R_lt (uR HO_21)) k_ hk, Kd.fresh' (Kd.R_lt (uR HO_521000)) k_ hk⟩)); (case aO => exact (uR HO_8)); (case aS => exact (below_size (vB HB))); (case aL => have := LMc30.out; omega); intro v534 w32 ho hb hg hat; rw [← Ny533.out] at ho; have n0_ := Aside0.mk (Kd.R_after (ok := (fun k_ => some k_ ≠ (.slice (some ad524) t521.length co12 : Value).ownBlock ∧ some k_ ≠ (.slice Ao9 t517.length co9 : Value).ownBlock)) (Kd.R_mono (uR HO_7) (fun _ hk => ⟨⟨hk.2.1, hk.2.2⟩, hk.1⟩)) hg hat); have n1_ := Aside0.mk (Kd.R_after (ok := (fun k_ => some k_ ≠ (u7 : Value).ownBlock ∧ some k_ ≠ (.slice Ao9 t517.length co9 : Value).ownBlock)) (Kd.R_mono (uR HO_21) (fun _ hk => ⟨⟨hk.1, hk.2.2⟩, hk.2.1⟩)) hg hat); have n2_ := Aside0.mk (Kd.R_after (ok := (fun k_ => some k_ ≠ (u7 : Value).ownBlock ∧ some k_ ≠ (.slice (some ad524) t521.length co12 : Value).ownBlock)) (Kd.R_mono (uR HO_521000) (fun _ hk => ⟨⟨hk.1, hk.2.2⟩, hk.2.1⟩)) hg hat); have n3_ := Aside0.mk (blk_grown (uK BK520) hg (Kd.R_ne HO_8.out BK520.out (by decide))); have n4_ := Aside0.mk (hb); have n5_ := Aside0.mk (ho); clear HO_7; clear HO_21; clear HO_521000; clear BK520; clear HB; clear HO_8; have HO_7 := n0_; have HO_21 := n1_; have HO_521000 := n2_; have BK520 := n3_; have HB := n4_; have HO535 := n5_; clear n0_ n1_ n2_ n3_ n4_ n5_; clear ho hb hg hat; have hcz33_0 := bC BK520; have hfz33_0 := blk_frozen BK520.out 0) | (refine gA (some 40) Tryz.func211 #[.agg #[.slice Ao9 t517.length co9], .int .i64 x12_2] ?_; (with_reducible refine (spec_svRow.calls k2 _ _ t517 x12_2 t536 _ (uE HO_521000) ?side2 A31.out).mono ?_); (case side2 => exact (Kd.R_reads' HO_521000.out).2.1); rintro e w34 ⟨rfl, hb⟩; refine ⟨_, rfl, ?_⟩; have n0_ := Aside0.mk (Kd.R_below (uR HO_7) hb); have n1_ := Aside0.mk (Kd.R_below (uR HO_21) hb); have n2_ := Aside0.mk (Kd.R_below (uR HO_521000) hb); have n3_ := Aside0.mk (Kd.R_below (uR HO535) hb); have n4_ := Aside0.mk (blk_below (uK BK520) hb); have n5_ := Aside0.mk (below_step (vB HB) hb); clear HO_7; clear HO_21; clear HO_521000; clear HO535; clear BK520; clear HB; have HO_7 := n0_; have HO_21 := n1_; have HO_521000 := n2_; have HO535 := n3_; have BK520 := n4_; have HB := n5_; clear n0_ n1_ n2_ n3_ n4_ n5_; (try clear hb)))
                          go_roundg k2
                          case measure => have := HK1.out; have := HK2.out; omega
                          case rel => exact ⟨(y533), (wrap64 (x11_2 + 1)), (t536), (by first | rfl | (simp; done) | (simp [*]; done)), (by first | rfl | (simp; done) | (simp [*]; done)), H', ⟨by have := HK1.out; have := HK2.out; omega⟩, ⟨Kd.R_mono (uR HO_7) (fun _ hk => ⟨hk.2, ⟨hk.1.1, hk.1.2⟩⟩)⟩, ⟨uR HO535⟩, ⟨Kd.R_mono (uR HO_21) (fun _ hk => ⟨hk.1.1, ⟨hk.2, hk.1.2⟩⟩)⟩, ⟨Kd.R_mono (uR HO_521000) (fun _ hk => ⟨hk.1.1, ⟨hk.2, hk.1.2⟩⟩)⟩, ⟨uK BK520⟩, ⟨(vB HB)⟩⟩
                        · rw [if_neg c30] at H
                          exact absurd H (by simp)
            · rw [if_neg c15] at H
              exact absurd H (by simp)
          · rw [if_neg c14] at H
            exact absurd H (by simp)
        · rw [if_neg c13] at H
          have c13b0 := decide_eq_false c13
          clear c13
          simp only [Option.some.injEq, Prod.mk.injEq] at H
          obtain ⟨rfl, rfl⟩ := H
          go_wp2
          go_ret2
          exact ⟨_, by first | rfl | (simp [errW_none, errW_some] <;> rfl) | (simp [*, errW_none, errW_some] <;> rfl), Kd.R_mono (uR HO_7) (fun _ hk => trivial), (vB HB)⟩
  · replace c4 := Bool.eq_false_iff.mpr c4
    subst c4
    rw [if_neg (show ¬ (false = true) by decide)] at H
    simp only [Option.some.injEq, Prod.mk.injEq] at H
    obtain ⟨rfl, rfl⟩ := H
    go_enter Tryz.func63, Tryz.ntmps63
    go_wp2_with (first | (refine gA (some 15) Tryz.func203 #[.int .i64 a0, .int .i64 a1] ?_; (with_reducible refine (spec_shSides.calls a0 a1 false _ A3.out).mono ?_); rintro e w' ⟨rfl, ⟨nd, rfl⟩⟩; refine ⟨_, rfl, ?_⟩))
    go_ret2
    exact ⟨_, by first | rfl | (simp [errW_none, errW_some] <;> rfl) | (simp [*, errW_none, errW_some] <;> rfl), by first | exact Kd.R_nil _ _ _ _ _ | exact Kd.N_nil _ _ _ _ _ | exact Kd.V_nil _ _ _ _ _ | exact Kd.Q_nil _ _ _ _ _ | exact Kd.S_nil _ _ _ _ _, uB HB⟩
end Go.Proofs.YtkgngggppcmpfaaGreat.L
end
section
namespace Go.Proofs.YtkgngggppcmpfaaGreat.L
open Go.RowKit Go.Proofs.YtkgngggppcmpfaaGreatW.PrintWords Go.Proofs.YtkgngggppcmpfaaGreatW.PrintLast Go.Proofs.YtkgngggppcmpfaaGreatW.PrintMore
attribute [local go_sem] max2_int min2_int max_two min_two max_three min_three max_four min_four
set_option linter.unusedVariables false
set_option linter.unusedSimpArgs false
def laws_oSame.l0 : Nat → List Int → List Int → Int → Int → Option (Bool)
  | 0, _, _, _, _ => none
  | k + 1, x0, x1, x12, x13 => if x13 < x12 then (if 0 ≤ x13 then (if x13 < (x0.length : Int) then (if x13 < (x1.length : Int) then (if (rd x0 x13) = (rd x1 x13) then (laws_oSame.l0 k x0 x1 x12 (wrap64 (x13 + 1))) else (some false)) else (none)) else (none)) else (none)) else (some true)
def laws_oSame.f (k : Nat) (l0 : List Int) (l1 : List Int) : Option (Bool) := if (l0.length : Int) = (l1.length : Int) then (laws_oSame.l0 k l0 l1 (l0.length : Int) 0) else (some false)
theorem laws_oSame.mono_l : ∀ k, (∀ y0 y1 y2 y3, LeO (laws_oSame.l0 k y0 y1 y2 y3) (laws_oSame.l0 (k + 1) y0 y1 y2 y3))
  | 0 => fun _ _ _ _ r h => by simp [laws_oSame.l0] at h
  | k + 1 => by
    have ih0 := laws_oSame.mono_l k
    · intro y0 y1 y2 y3
      unfold laws_oSame.l0
      repeat' first
      | (with_reducible exact ih0 _ _ _ _)
      | (with_reducible exact LeO.refl _)
      | (with_reducible exact LeO.none _)
      | (with_reducible refine LeO.ite ?_ ?_)
      | (with_reducible refine LeO.bind ?_ (fun _ => ?_))
      | exact ih0 _ _ _ _
      | exact LeO.none _
      | refine LeO.ite ?_ ?_
      | refine LeO.bind ?_ (fun _ => ?_)
theorem laws_oSame.mono : ∀ a0 a1 k, LeO (laws_oSame.f k a0 a1) (laws_oSame.f (k + 1) a0 a1) := by
  intro a0 a1 k
  have ih0 := laws_oSame.mono_l k
  unfold laws_oSame.f
  repeat' (with_reducible first | apply ih0 | exact LeO.refl _ | exact LeO.none _ | refine LeO.ite ?_ ?_ | refine LeO.bind ?_ (fun _ => ?_))
set_option maxHeartbeats 8000000 in
set_option maxRecDepth 100000 in
theorem laws_oSame.calls (k : Nat) (A0 : Option Addr) (c0 : Nat) (l0 : List Int) (A1 : Option Addr) (c1 : Nat) (l1 : List Int) (r : Bool) (w : World) (hr0 : Kd.C (Kd.int .i64) w A0 l0.length l0) (hc0 : l0.length ≤ c0) (hr1 : Kd.C (Kd.int .i64) w A1 l1.length l1) (hc1 : l1.length ≤ c1) (h : laws_oSame.f k l0 l1 = some r) :
    Calls Tryz.prog 64 #[.slice A0 l0.length c0, .slice A1 l1.length c1] w fun e w' => e = .returned (.bool r) ∧ Drawn0 w w' := by
  have HR0 := Aside0.mk hr0
  have HC0 := Aside0.mk hc0
  clear hr0 hc0
  have HR1 := Aside0.mk hr1
  have HC1 := Aside0.mk hc1
  clear hr1 hc1
  have H : (if (l0.length : Int) = (l1.length : Int) then (laws_oSame.l0 k l0 l1 (l0.length : Int) 0) else (some false)) = some r := h
  clear h
  by_cases c3 : (l0.length : Int) = (l1.length : Int)
  · rw [if_pos c3] at H
    have c3b0 : ((l0.length : Int) == (l1.length : Int)) = true := beq_iff_eq.mpr c3
    have c3b1 : ((l0.length : Int) != (l1.length : Int)) = false := bne_eq_false_iff_eq.mpr c3
    have c3b2 : (l0.length == l1.length) = true := by first | simpa using c3 | (simp at c3 ⊢; omega)
    clear c3
    have H' := Aside0.mk H
    clear H
    go_enter Tryz.func64, Tryz.ntmps64
    go_wp2
    repeat (go_quiet (fail); try go_wp2)
    go_loopg [13] k (fun kq v13 w' => ∃ (x13_1 : Int), v13 = .int .i64 x13_1 ∧ Aside0 (laws_oSame.l0 kq l0 l1 (l0.length : Int) x13_1 = some r) ∧ Aside0 (kq ≤ k) ∧ Drawn0 w w')
    case atStart => exact ⟨(0), (by first | rfl | (simp; done) | (simp [*]; done)), H', ⟨Nat.le_refl _⟩, by repeat (first | exact Drawn0.refl _ | apply Drawn0.step)⟩
    case round =>
      clear H'
      try clear c3b0 c3b1 c3b2
      obtain ⟨x13_1, rfl, HA, HK1, ⟨m1, rfl⟩⟩ := hrel
      cases gk with
      | zero => exact absurd HA.out (by simp [laws_oSame.l0])
      | succ k1 =>
        have H := HA.out
        clear HA
        simp only [laws_oSame.l0] at H
        by_cases c4 : x13_1 < (l0.length : Int)
        · rw [if_pos c4] at H
          have c4b0 := decide_eq_true c4
          clear c4
          by_cases c5 : 0 ≤ x13_1
          · rw [if_pos c5] at H
            have c5b0 := decide_eq_true c5
            clear c5
            by_cases c6 : x13_1 < (l0.length : Int)
            · rw [if_pos c6] at H
              have c6b0 := decide_eq_true c6
              clear c6
              by_cases c7 : x13_1 < (l1.length : Int)
              · rw [if_pos c7] at H
                have c7b0 := decide_eq_true c7
                clear c7
                by_cases c8 : (rd l0 x13_1) = (rd l1 x13_1)
                · rw [if_pos c8] at H
                  have c8b0 : ((rd l0 x13_1) == (rd l1 x13_1)) = true := beq_iff_eq.mpr c8
                  have c8b1 : ((rd l0 x13_1) != (rd l1 x13_1)) = false := bne_eq_false_iff_eq.mpr c8
                  clear c8
                  have H' := Aside0.mk H
                  clear H
                  have p537 : 0 ≤ (x13_1 : Int) := of_decide_eq_true (by first | (with_reducible assumption) | assumption)
                  have q537 : x13_1 < (l0.length : Int) := of_decide_eq_true (by first | (with_reducible assumption) | assumption)
                  obtain ⟨ad537, e537, hx537_0⟩ := Kd.at_int HR0.out x13_1 p537 q537
                  cases e537
                  replace p537 := eq_true p537
                  replace q537 := eq_true q537
                  have p538 : 0 ≤ (x13_1 : Int) := of_decide_eq_true (by first | (with_reducible assumption) | assumption)
                  have q538 : x13_1 < (l1.length : Int) := of_decide_eq_true (by first | (with_reducible assumption) | assumption)
                  obtain ⟨ad538, e538, hx538_0⟩ := Kd.at_int HR1.out x13_1 p538 q538
                  cases e538
                  replace p538 := eq_true p538
                  replace q538 := eq_true q538
                  go_wp2
                  repeat (go_quiet (fail); try go_wp2)
                  go_roundg k1
                  case measure => have := HK1.out; omega
                  case rel => exact ⟨(wrap64 (x13_1 + 1)), (by first | rfl | (simp; done) | (simp [*]; done)), H', ⟨by have := HK1.out; omega⟩, by repeat (first | exact Drawn0.refl _ | apply Drawn0.step)⟩
                · rw [if_neg c8] at H
                  have c8b0 : ((rd l0 x13_1) == (rd l1 x13_1)) = false := beq_eq_false_iff_ne.mpr c8
                  have c8b1 : ((rd l0 x13_1) != (rd l1 x13_1)) = true := bne_iff_ne.mpr c8
                  obtain rfl := Option.some.inj H
                  have p537 : 0 ≤ (x13_1 : Int) := of_decide_eq_true (by first | (with_reducible assumption) | assumption)
                  have q537 : x13_1 < (l0.length : Int) := of_decide_eq_true (by first | (with_reducible assumption) | assumption)
                  obtain ⟨ad537, e537, hx537_0⟩ := Kd.at_int HR0.out x13_1 p537 q537
                  cases e537
                  replace p537 := eq_true p537
                  replace q537 := eq_true q537
                  have p538 : 0 ≤ (x13_1 : Int) := of_decide_eq_true (by first | (with_reducible assumption) | assumption)
                  have q538 : x13_1 < (l1.length : Int) := of_decide_eq_true (by first | (with_reducible assumption) | assumption)
                  obtain ⟨ad538, e538, hx538_0⟩ := Kd.at_int HR1.out x13_1 p538 q538
                  cases e538
                  replace p538 := eq_true p538
                  replace q538 := eq_true q538
                  go_wp2
                  repeat (go_quiet (fail); try go_wp2)
                  go_ret
                  exact ⟨by first | rfl | (simp; done) | (simp [*]; done), by repeat (first | exact Drawn0.refl _ | apply Drawn0.step)⟩
              · rw [if_neg c7] at H
                exact absurd H (by simp)
            · rw [if_neg c6] at H
              exact absurd H (by simp)
          · rw [if_neg c5] at H
            exact absurd H (by simp)
        · rw [if_neg c4] at H
          have c4b0 := decide_eq_false c4
          clear c4
          obtain rfl := Option.some.inj H
          go_wp2
          repeat (go_quiet (fail); try go_wp2)
          go_ret
          exact ⟨by first | rfl | (simp; done) | (simp [*]; done), by repeat (first | exact Drawn0.refl _ | apply Drawn0.step)⟩
  · rw [if_neg c3] at H
    have c3b0 : ((l0.length : Int) == (l1.length : Int)) = false := beq_eq_false_iff_ne.mpr c3
    have c3b1 : ((l0.length : Int) != (l1.length : Int)) = true := bne_iff_ne.mpr c3
    have c3b2 : (l0.length == l1.length) = false := by first | simpa using c3 | (simp at c3 ⊢; omega)
    obtain rfl := Option.some.inj H
    go_enter Tryz.func64, Tryz.ntmps64
    go_wp2
    repeat (go_quiet (fail); try go_wp2)
    go_ret
    exact ⟨by first | rfl | (simp; done) | (simp [*]; done), by repeat (first | exact Drawn0.refl _ | apply Drawn0.step)⟩
end Go.Proofs.YtkgngggppcmpfaaGreat.L
end
section
namespace Go.Proofs.YtkgngggppcmpfaaGreat.L
open Go.RowKit Go.Proofs.YtkgngggppcmpfaaGreatW.PrintWords Go.Proofs.YtkgngggppcmpfaaGreatW.PrintLast Go.Proofs.YtkgngggppcmpfaaGreatW.PrintMore Go.Proofs.YtkgngggppcmpfaaGreat.X
attribute [local go_sem] max2_int min2_int max_two min_two max_three min_three max_four min_four
set_option linter.unusedVariables false
set_option linter.unusedSimpArgs false
def spec_l1Cur_among.f (s0_0 : List Int) (s0_1 : Int) (s0_2 : Int) (l1 : List Int) : Option (Int × Int × Int) := (spec_l1Cur_pick.f s0_0 s0_1 s0_2 (l1.length : Int)).bind fun bt539 => (if 0 ≤ bt539.1 then (if bt539.1 < (l1.length : Int) then (some (rd l1 bt539.1, bt539.2.1, bt539.2.2)) else (none)) else (none))
set_option maxHeartbeats 8000000 in
set_option maxRecDepth 100000 in
theorem spec_l1Cur_among.calls (g : Nat) (s0_0 : List Int) (s0_1 : Int) (s0_2 : Int) (A1 : Option Addr) (c1 : Nat) (l1 : List Int) (r1 : Int) (r2 : Int) (r3 : Int) (w0 w : World) (hI : IsS94 w0 w g s0_0 s0_1 s0_2) (hB : Below w0.heap.size w0 w) (hr1 : Kd.C (Kd.int .i64) w A1 l1.length l1) (hc1 : l1.length ≤ c1) (hf1 : ∀ ad, A1 = some ad → 0 < l1.length → ad.block ≠ g) (h : spec_l1Cur_among.f s0_0 s0_1 s0_2 l1 = some (r1, r2, r3)) :
    Calls Tryz.prog 190 #[.pointer (some ⟨g, 0, none⟩), .slice A1 l1.length c1] w fun e w' => e = .returned (.int .i64 r1) ∧ IsS94 w0 w' g s0_0 r2 r3 ∧ Below w0.heap.size w0 w' ∧ KeepBut w w' g none := by
  have HR1 := Aside0.mk hr1
  have HC1 := Aside0.mk hc1
  clear hr1 hc1
  have HI0 := Aside0.mk hI
  have HK := Aside0.mk (KeepBut.refl w g none)
  have HL := Aside0.mk hB.size
  clear hI
  have HW0 := Aside0.mk hB.size
  have HB := Aside0.mk hB
  clear hB
  have H : ((spec_l1Cur_pick.f s0_0 s0_1 s0_2 (l1.length : Int)).bind fun bt539 => (if 0 ≤ bt539.1 then (if bt539.1 < (l1.length : Int) then (some (rd l1 bt539.1, bt539.2.1, bt539.2.2)) else (none)) else (none))) = some (r1, r2, r3) := h
  clear h
  obtain ⟨⟨t539, t540, t541⟩, A3, H⟩ := bs H; (try dsimp only at H)
  by_cases c4 : 0 ≤ t539
  · rw [if_pos c4] at H
    have c4b0 := decide_eq_true c4
    clear c4
    by_cases c5 : t539 < (l1.length : Int)
    · rw [if_pos c5] at H
      have c5b0 := decide_eq_true c5
      clear c5
      simp only [Option.some.injEq, Prod.mk.injEq] at H
      obtain ⟨rfl, rfl, rfl⟩ := H
      go_enter Tryz.func190, Tryz.ntmps190
      go_wp2_with (first | (refine gA (some 9) Tryz.func162 #[.pointer (some ⟨g, 0, none⟩), .int .i64 (l1.length : Int)] ?_; (with_reducible refine (spec_l1Cur_pick.calls g s0_0 s0_1 s0_2 (l1.length : Int) t539 t540 t541 w0 _ (IsS94.vI HI0) (IsS94.vB HB) A3.out).mono ?_); rintro e w6 ⟨rfl, hi, hb, hk⟩; refine ⟨_, rfl, ?_⟩; have n0_ := Aside0.mk (KeepBut.trans (vK HK) hk (.inl rfl)); have n1_ := Aside0.mk (hb); have n2_ := Aside0.mk (hi); clear HK; clear HB; clear HI0; have HK := n0_; have HB := n1_; have HI0 := n2_; clear n0_ n1_ n2_; (try clear hb hk hi); have p542 : 0 ≤ (t539 : Int) := of_decide_eq_true (by first | (with_reducible assumption) | assumption); have q542 : t539 < (l1.length : Int) := of_decide_eq_true (by first | (with_reducible assumption) | assumption); obtain ⟨ad542, e542, hx542_0⟩ := Kd.at_int HR1.out t539 p542 q542; cases e542; replace hx542_0 := keep_cell HK.out hx542_0 (by first | (rw [add_block]; exact hf1 _ rfl (by omega)) | exact hf1 _ rfl (by omega) | exact hf1 ad542 rfl (by omega)); replace p542 := eq_true p542; replace q542 := eq_true q542))
      go_ret
      exact ⟨by first | rfl | (simp [errW_none, errW_some] <;> rfl) | (simp [*, errW_none, errW_some] <;> rfl), (IsS94.vI HI0), (IsS94.vB HB), (vK HK)⟩
    · rw [if_neg c5] at H
      exact absurd H (by simp)
  · rw [if_neg c4] at H
    exact absurd H (by simp)
def spec_l1Cur_steps.f (s0_0 : List Int) (s0_1 : Int) (s0_2 : Int) : Option (Int × Int × Int) := (spec_l1Cur_one.f s0_0 s0_1 s0_2 10).bind fun bt543 => (if bt543.1 = true then ((spec_l1Cur_among.f s0_0 bt543.2.1 bt543.2.2 (([(-1), 60, 61] : List Int))).bind fun bt549 => (some (bt549.1, bt549.2.1, bt549.2.2))) else ((spec_l1Cur_pick.f s0_0 bt543.2.1 bt543.2.2 14).bind fun bt552 => (some (bt552.1, bt552.2.1, bt552.2.2))))
set_option maxHeartbeats 8000000 in
set_option maxRecDepth 100000 in
theorem spec_l1Cur_steps.calls (g : Nat) (s0_0 : List Int) (s0_1 : Int) (s0_2 : Int) (r1 : Int) (r2 : Int) (r3 : Int) (w0 w : World) (hI : IsS94 w0 w g s0_0 s0_1 s0_2) (hB : Below w0.heap.size w0 w) (h : spec_l1Cur_steps.f s0_0 s0_1 s0_2 = some (r1, r2, r3)) :
    Calls Tryz.prog 214 #[.pointer (some ⟨g, 0, none⟩)] w fun e w' => e = .returned (.int .i64 r1) ∧ IsS94 w0 w' g s0_0 r2 r3 ∧ Below w0.heap.size w0 w' ∧ KeepBut w w' g none := by
  have HI0 := Aside0.mk hI
  have HK := Aside0.mk (KeepBut.refl w g none)
  have HL := Aside0.mk hB.size
  clear hI
  have HW0 := Aside0.mk hB.size
  have HB := Aside0.mk hB
  clear hB
  have H : ((spec_l1Cur_one.f s0_0 s0_1 s0_2 10).bind fun bt543 => (if bt543.1 = true then ((spec_l1Cur_among.f s0_0 bt543.2.1 bt543.2.2 (([(-1), 60, 61] : List Int))).bind fun bt549 => (some (bt549.1, bt549.2.1, bt549.2.2))) else ((spec_l1Cur_pick.f s0_0 bt543.2.1 bt543.2.2 14).bind fun bt552 => (some (bt552.1, bt552.2.1, bt552.2.2))))) = some (r1, r2, r3) := h
  clear h
  obtain ⟨⟨t543, t544, t545⟩, A2, H⟩ := bs H; (try dsimp only at H)
  by_cases c3 : t543 = true
  · subst c3
    rw [if_pos rfl] at H
    obtain ⟨y546, hy546⟩ : ∃ y_ : List Int, y_ = (([(-1), 60, 61] : List Int)) := ⟨_, rfl⟩
    replace H : ((spec_l1Cur_among.f s0_0 t544 t545 y546).bind fun bt549 => (some (bt549.1, bt549.2.1, bt549.2.2))) = some (r1, r2, r3) := by first | (rw [hy546]; with_reducible exact H) | (have H2_ := (Option.bind_some _ _).symm.trans H; rw [hy546]; with_reducible exact H2_) | (have H2_ := (Option.bind_some _ _).symm.trans H; with_reducible exact H2_) | with_reducible exact H | (rw [hy546]; exact H) | exact H
    have Ny546 := Aside0.mk hy546
    clear hy546
    obtain ⟨⟨t549, t550, t551⟩, A4, H⟩ := bs H; (try dsimp only at H)
    simp only [Option.some.injEq, Prod.mk.injEq] at H
    obtain ⟨rfl, rfl, rfl⟩ := H
    go_enter Tryz.func214, Tryz.ntmps214
    go_wp2_with (first | (refine gA (some 4) Tryz.func161 #[.pointer (some ⟨g, 0, none⟩), .int .i64 10] ?_; (with_reducible refine (spec_l1Cur_one.calls g s0_0 s0_1 s0_2 10 true t544 t545 w0 _ (IsS94.vI HI0) (IsS94.vB HB) A2.out).mono ?_); rintro e w5 ⟨rfl, hi, hb, hk⟩; refine ⟨_, rfl, ?_⟩; have n0_ := Aside0.mk (KeepBut.trans (vK HK) hk (.inl rfl)); have n1_ := Aside0.mk (hb); have n2_ := Aside0.mk (hi); clear HK; clear HB; clear HI0; have HK := n0_; have HB := n1_; have HI0 := n2_; clear n0_ n1_ n2_; (try clear hb hk hi)) | ((with_reducible refine gate_dst (N := 6) rfl ?_); refine Kd.R_lit (Kd.int .i64) _ 3 ?hg (N := 6) ?hd (xs := ([(-1), 60, 61] : List Int)) (inner := [.int .i64 (-1), .int .i64 60, .int .i64 61]) (ok := fun _ => True) (okp := fun _ => True) ?hr ?hp (fun _ hk => hk) trivial (Below.refl _ _) (Nat.le_refl _) (by simp) ?_; (case hd => rfl); (case hg => rfl); (case hr => first | (go_simp; done) | (go_simp; rfl)); (case hp => exact (Reps.one (show Kd.M (Kd.int .i64) _ _ _ (-1) [.int .i64 (-1)] from rfl) (Reps.one (show Kd.M (Kd.int .i64) _ _ _ 60 [.int .i64 60] from rfl) (Reps.one (show Kd.M (Kd.int .i64) _ _ _ 61 [.int .i64 61] from rfl) (Reps.none _ _))))); intro v547 w6 ho7 hb hg_ hnew_; clear hg_ hnew_; (first | rw [← Ny546.out] at ho7 | (simp only [Int.reduceToNat] at ho7; rw [← Ny546.out] at ho7)); have n0_ := Aside0.mk (Kd.R_lower ho7 (keep_size (w := w) (g := g) (row := none) (vK HK))); have n1_ := Aside0.mk (IsS94.below (IsS94.vI HI0) hb); have n2_ := Aside0.mk (KeepBut.trans (vK HK) (KeepBut.of_below hb g none) (.inl rfl)); have n3_ := Aside0.mk (below_step (IsS94.vB HB) hb); clear HI0; clear HK; clear HB; have HO548 := n0_; have HI0 := n1_; have HK := n2_; have HB := n3_; clear n0_ n1_ n2_ n3_; clear hb ho7; obtain ⟨Ao8, co8, eo8⟩ := Kd.R_slice HO548.out; subst eo8) | (refine gA (some 7) Tryz.func190 #[.pointer (some ⟨g, 0, none⟩), .slice Ao8 y546.length co8] ?_; (with_reducible refine (spec_l1Cur_among.calls g s0_0 t544 t545 _ _ y546 t549 t550 t551 w0 _ (IsS94.vI HI0) (IsS94.vB HB) (uE HO548) ?side4 ?side5 A4.out).mono ?_); (case side4 => exact (Kd.R_reads' HO548.out).2.1); (case side5 => exact far_slice (IsS94.own_ne HI0.out HO548.out (by decide))); rintro e w9 ⟨rfl, hi, hb, hk⟩; refine ⟨_, rfl, ?_⟩; have n0_ := Aside0.mk (Kd.R_mono (Kd.R_keep (IsS94.apart (show IsS94 w0 _ g s0_0 t544 t545 from (IsS94.vI HI0)) (uR HO548) (by decide)) hk (fun _ h => h.2)) (fun _ h => h.1)); have n1_ := Aside0.mk (KeepBut.trans (vK HK) hk (.inl rfl)); have n2_ := Aside0.mk (hb); have n3_ := Aside0.mk (hi); clear HO548; clear HK; clear HB; clear HI0; have HO548 := n0_; have HK := n1_; have HB := n2_; have HI0 := n3_; clear n0_ n1_ n2_ n3_; (try clear hb hk hi)))
    go_ret
    exact ⟨by first | rfl | (simp [errW_none, errW_some] <;> rfl) | (simp [*, errW_none, errW_some] <;> rfl), (IsS94.vI HI0), (IsS94.vB HB), (vK HK)⟩
  · replace c3 := Bool.eq_false_iff.mpr c3
    subst c3
    rw [if_neg (show ¬ (false = true) by decide)] at H
    obtain ⟨⟨t552, t553, t554⟩, A10, H⟩ := bs H; (try dsimp only at H)
    simp only [Option.some.injEq, Prod.mk.injEq] at H
    obtain ⟨rfl, rfl, rfl⟩ := H
    go_enter Tryz.func214, Tryz.ntmps214
    go_wp2_with (first | (refine gA (some 4) Tryz.func161 #[.pointer (some ⟨g, 0, none⟩), .int .i64 10] ?_; (with_reducible refine (spec_l1Cur_one.calls g s0_0 s0_1 s0_2 10 false t544 t545 w0 _ (IsS94.vI HI0) (IsS94.vB HB) A2.out).mono ?_); rintro e w11 ⟨rfl, hi, hb, hk⟩; refine ⟨_, rfl, ?_⟩; have n0_ := Aside0.mk (KeepBut.trans (vK HK) hk (.inl rfl)); have n1_ := Aside0.mk (hb); have n2_ := Aside0.mk (hi); clear HK; clear HB; clear HI0; have HK := n0_; have HB := n1_; have HI0 := n2_; clear n0_ n1_ n2_; (try clear hb hk hi)) | (refine gA (some 9) Tryz.func162 #[.pointer (some ⟨g, 0, none⟩), .int .i64 14] ?_; (with_reducible refine (spec_l1Cur_pick.calls g s0_0 t544 t545 14 t552 t553 t554 w0 _ (IsS94.vI HI0) (IsS94.vB HB) A10.out).mono ?_); rintro e w12 ⟨rfl, hi, hb, hk⟩; refine ⟨_, rfl, ?_⟩; have n0_ := Aside0.mk (KeepBut.trans (vK HK) hk (.inl rfl)); have n1_ := Aside0.mk (hb); have n2_ := Aside0.mk (hi); clear HK; clear HB; clear HI0; have HK := n0_; have HB := n1_; have HI0 := n2_; clear n0_ n1_ n2_; (try clear hb hk hi)))
    go_ret
    exact ⟨by first | rfl | (simp [errW_none, errW_some] <;> rfl) | (simp [*, errW_none, errW_some] <;> rfl), (IsS94.vI HI0), (IsS94.vB HB), (vK HK)⟩
def spec_DrawRowFixed.f (l0 : List Int) : Option (Int × Int × Int) := (spec_l1Cur_sides.f l0 0 0).bind fun bt556 => ((spec_l1Cur_steps.f l0 bt556.2.2.1 bt556.2.2.2).bind fun bt560 => (some (bt556.1, bt556.2.1, bt560.1)))
set_option maxHeartbeats 8000000 in
set_option maxRecDepth 100000 in
theorem spec_DrawRowFixed.calls (A0 : Option Addr) (c0 : Nat) (l0 : List Int) (r1 : Int) (r2 : Int) (r3 : Int) (w : World) (hr0 : Kd.C (Kd.int .u8) w A0 l0.length l0) (hc0 : l0.length ≤ c0) (h : spec_DrawRowFixed.f l0 = some (r1, r2, r3)) :
    Calls Tryz.prog 65 #[.slice A0 l0.length c0] w fun e w' => e = .returned (.tuple #[.int .i64 r1, .int .i64 r2, .int .i64 r3]) ∧ Below w.heap.size w w' := by
  have hu94 := Tryz.underlying94
  have HR0 := Aside0.mk hr0
  have HC0 := Aside0.mk hc0
  clear hr0 hc0
  have HB := Aside0.mk (Below.refl w.heap.size w)
  have H : ((spec_l1Cur_sides.f l0 0 0).bind fun bt556 => ((spec_l1Cur_steps.f l0 bt556.2.2.1 bt556.2.2.2).bind fun bt560 => (some (bt556.1, bt556.2.1, bt560.1)))) = some (r1, r2, r3) := h
  clear h
  obtain ⟨⟨t556, t557, t558, t559⟩, A2, H⟩ := bs H; (try dsimp only at H)
  obtain ⟨⟨t560, t561, t562⟩, A3, H⟩ := bs H; (try dsimp only at H)
  simp only [Option.some.injEq, Prod.mk.injEq] at H
  obtain ⟨rfl, rfl, rfl⟩ := H
  go_enter Tryz.func65, Tryz.ntmps65
  go_wp2_with (first | ((with_reducible refine gate_dst (N := 10) rfl ?_); refine box_event ?hg (N := 10) ?hd (cs := #[.slice A0 l0.length c0, .int .i64 0, .int .u64 0]) (t := 94) ?hr ?_; (case hd => rfl); (case hg => rfl); (case hr => first | (go_simp; done) | (go_simp; rfl)); intro gb555 hg w4 hbox hb; have n0_ := Aside0.mk (below_step (by repeat (first | (with_reducible first | exact HB.out | apply below_alloc | apply pw_below_drewN | apply below_drew1) | exact HB.out)) hb); have n1_ := Aside0.mk ((⟨_, _, hbox, (by rw [hg]; exact (below_size (by repeat (first | (with_reducible first | exact HB.out | apply below_alloc | apply pw_below_drewN | apply below_drew1) | exact HB.out))) : w.heap.size ≤ gb555), HR0.out⟩ : IsS94 w _ gb555 l0 0 0)); have n2_ := Aside0.mk ((by rw [hg]; exact (below_size (by repeat (first | (with_reducible first | exact HB.out | apply below_alloc | apply pw_below_drewN | apply below_drew1) | exact HB.out))) : w.heap.size ≤ gb555)); have n3_ := Aside0.mk ((by rw [hg]; exact (below_size (by repeat (first | (with_reducible first | exact HB.out | apply below_alloc | apply pw_below_drewN | apply below_drew1) | exact HB.out))) : w.heap.size ≤ gb555)); clear HB; have HB := n0_; have HI555 := n1_; have GW555 := n2_; have GE555 := n3_; clear n0_ n1_ n2_ n3_; clear hb hbox hg) | ((with_reducible refine gate_callee (f := 213) rfl ?_); refine goesL_ (some 13) rfl rfl Tryz.func213 (by kernel_rfl) rfl #[.pointer (some ⟨gb555, 0, none⟩)] rfl (by (try simp only [List.map_toArray, List.map_cons, List.map_nil]); first | done | rfl | (simp only [List.length_drop, List.length_take]; rfl)) ?_; (with_reducible refine (spec_l1Cur_sides.calls gb555 l0 0 0 t556 t557 t558 t559 w _ ?side1 ?side2 A2.out).mono ?_); (case side1 => repeat (first | (with_reducible first | exact HI555.out | apply IsS94.alloc | apply IsS94.drewN | apply IsS94.drew | apply IsS94.set_1 | apply IsS94.set_2) | exact HI555.out)); (case side2 => repeat (first | (with_reducible first | exact HB.out | apply below_alloc | apply pw_below_drewN | apply below_drew1 | refine below_set ?_ (IsS94.ge HI555.out)) | exact HB.out)); rintro e w5 ⟨rfl, hi, hb, hk⟩; refine ⟨_, rfl, ?_⟩; have n0_ := Aside0.mk (hb); have n1_ := Aside0.mk (hi); clear HB; clear HI555; have HB := n0_; have HI555 := n1_; clear n0_ n1_; (try clear hb); (try clear hb2); (try clear hk); (try clear hi)) | ((with_reducible refine gate_callee (f := 214) rfl ?_); refine goesL_ (some 19) rfl rfl Tryz.func214 (by kernel_rfl) rfl #[.pointer (some ⟨gb555, 0, none⟩)] rfl (by (try simp only [List.map_toArray, List.map_cons, List.map_nil]); first | done | rfl | (simp only [List.length_drop, List.length_take]; rfl)) ?_; (with_reducible refine (spec_l1Cur_steps.calls gb555 l0 t558 t559 t560 t561 t562 w _ ?side1 ?side2 A3.out).mono ?_); (case side1 => repeat (first | (with_reducible first | exact HI555.out | apply IsS94.alloc | apply IsS94.drewN | apply IsS94.drew | apply IsS94.set_1 | apply IsS94.set_2) | exact HI555.out)); (case side2 => repeat (first | (with_reducible first | exact HB.out | apply below_alloc | apply pw_below_drewN | apply below_drew1 | refine below_set ?_ (IsS94.ge HI555.out)) | exact HB.out)); rintro e w6 ⟨rfl, hi, hb, hk⟩; refine ⟨_, rfl, ?_⟩; have n0_ := Aside0.mk (hb); have n1_ := Aside0.mk (hi); clear HB; clear HI555; have HB := n0_; have HI555 := n1_; clear n0_ n1_; (try clear hb); (try clear hb2); (try clear hk); (try clear hi)))
  go_ret3
  exact ⟨by first | rfl | (simp [errW_none, errW_some] <;> rfl) | (simp [*, errW_none, errW_some] <;> rfl), (IsS94.vB HB)⟩
end Go.Proofs.YtkgngggppcmpfaaGreat.L
end
section
namespace Go.Proofs.YtkgngggppcmpfaaGreat.L
open Go.RowKit Go.Proofs.YtkgngggppcmpfaaGreatW.PrintWords Go.Proofs.YtkgngggppcmpfaaGreatW.PrintLast Go.Proofs.YtkgngggppcmpfaaGreatW.PrintMore
attribute [local go_sem] max2_int min2_int max_two min_two max_three min_three max_four min_four
set_option linter.unusedVariables false
set_option linter.unusedSimpArgs false
def impl_fixed.l0 : Nat → Int → Int → List Int → Int → Int → Option (Int)
  | 0, _, _, _, _, _ => none
  | k + 1, x1, x5, x8, x9, x10 => if x10 < x9 then (if 0 ≤ x10 then (if x10 < (x8.length : Int) then (if (rd x8 x10) = 0 then (none) else (if (Int.tmod x1 (rd x8 x10)) = 0 then (impl_fixed.l0 k x1 (wrap64 (x5 + (rd x8 x10))) x8 x9 (wrap64 (x10 + 1))) else (impl_fixed.l0 k x1 x5 x8 x9 (wrap64 (x10 + 1))))) else (none)) else (none)) else (some x5)
def impl_fixed.f (k : Nat) (l0 : List Int) (a1 : Int) : Option (Int) := impl_fixed.l0 k a1 0 l0 (l0.length : Int) 0
theorem impl_fixed.mono_l : ∀ k, (∀ y0 y1 y2 y3 y4, LeO (impl_fixed.l0 k y0 y1 y2 y3 y4) (impl_fixed.l0 (k + 1) y0 y1 y2 y3 y4))
  | 0 => fun _ _ _ _ _ r h => by simp [impl_fixed.l0] at h
  | k + 1 => by
    have ih0 := impl_fixed.mono_l k
    · intro y0 y1 y2 y3 y4
      unfold impl_fixed.l0
      repeat' first
      | (with_reducible exact ih0 _ _ _ _ _)
      | (with_reducible exact LeO.refl _)
      | (with_reducible exact LeO.none _)
      | (with_reducible refine LeO.ite ?_ ?_)
      | (with_reducible refine LeO.bind ?_ (fun _ => ?_))
      | exact ih0 _ _ _ _ _
      | exact LeO.none _
      | refine LeO.ite ?_ ?_
      | refine LeO.bind ?_ (fun _ => ?_)
theorem impl_fixed.mono : ∀ a0 a1 k, LeO (impl_fixed.f k a0 a1) (impl_fixed.f (k + 1) a0 a1) := by
  intro a0 a1 k
  have ih0 := impl_fixed.mono_l k
  unfold impl_fixed.f
  repeat' (with_reducible first | apply ih0 | exact LeO.refl _ | exact LeO.none _ | refine LeO.ite ?_ ?_ | refine LeO.bind ?_ (fun _ => ?_))
set_option maxHeartbeats 8000000 in
set_option maxRecDepth 100000 in
theorem impl_fixed.calls (k : Nat) (A0 : Option Addr) (c0 : Nat) (l0 : List Int) (a1 : Int) (r : Int) (w : World) (hr0 : Kd.C (Kd.int .i64) w A0 l0.length l0) (hc0 : l0.length ≤ c0) (h : impl_fixed.f k l0 a1 = some r) :
    Calls Tryz.prog 191 #[.slice A0 l0.length c0, .int .i64 a1] w fun e w' => e = .returned (.int .i64 r) ∧ Drawn0 w w' := by
  have HR0 := Aside0.mk hr0
  have HC0 := Aside0.mk hc0
  clear hr0 hc0
  have H : (impl_fixed.l0 k a1 0 l0 (l0.length : Int) 0) = some r := h
  clear h
  have H' := Aside0.mk H
  clear H
  go_enter Tryz.func191, Tryz.ntmps191
  go_wp2
  go_loopg [5, 10] k (fun kq v5 v10 w' => ∃ (x5_1 : Int) (x10_1 : Int), v5 = .int .i64 x5_1 ∧ v10 = .int .i64 x10_1 ∧ Aside0 (impl_fixed.l0 kq a1 x5_1 l0 (l0.length : Int) x10_1 = some r) ∧ Aside0 (kq ≤ k) ∧ Drawn0 w w')
  case atStart => exact ⟨(0), (0), (by first | rfl | (simp; done) | (simp [*]; done)), (by first | rfl | (simp; done) | (simp [*]; done)), H', ⟨Nat.le_refl _⟩, by repeat (first | exact Drawn0.refl _ | apply Drawn0.step)⟩
  case round =>
    clear H'
    skip
    obtain ⟨x5_1, x10_1, rfl, rfl, HA, HK1, ⟨m1, rfl⟩⟩ := hrel
    cases gk with
    | zero => exact absurd HA.out (by simp [impl_fixed.l0])
    | succ k1 =>
      have H := HA.out
      clear HA
      simp only [impl_fixed.l0] at H
      by_cases c3 : x10_1 < (l0.length : Int)
      · rw [if_pos c3] at H
        have c3b0 := decide_eq_true c3
        clear c3
        by_cases c4 : 0 ≤ x10_1
        · rw [if_pos c4] at H
          have c4b0 := decide_eq_true c4
          clear c4
          by_cases c5 : x10_1 < (l0.length : Int)
          · rw [if_pos c5] at H
            have c5b0 := decide_eq_true c5
            clear c5
            by_cases c6 : (rd l0 x10_1) = 0
            · rw [if_pos c6] at H
              exact absurd H (by simp)
            · rw [if_neg c6] at H
              have c6b0 : ((rd l0 x10_1) == 0) = false := beq_eq_false_iff_ne.mpr c6
              have c6b1 : ((rd l0 x10_1) != 0) = true := bne_iff_ne.mpr c6
              by_cases c7 : (Int.tmod a1 (rd l0 x10_1)) = 0
              · rw [if_pos c7] at H
                have c7b0 : ((Int.tmod a1 (rd l0 x10_1)) == 0) = true := beq_iff_eq.mpr c7
                have c7b1 : ((Int.tmod a1 (rd l0 x10_1)) != 0) = false := bne_eq_false_iff_eq.mpr c7
                clear c7
                have H' := Aside0.mk H
                clear H
                have p563 : 0 ≤ (x10_1 : Int) := of_decide_eq_true (by first | (with_reducible assumption) | assumption)
                have q563 : x10_1 < (l0.length : Int) := of_decide_eq_true (by first | (with_reducible assumption) | assumption)
                obtain ⟨ad563, e563, hx563_0⟩ := Kd.at_int HR0.out x10_1 p563 q563
                cases e563
                replace p563 := eq_true p563
                replace q563 := eq_true q563
                go_wp2
                go_roundg k1
                case measure => have := HK1.out; omega
                case rel => exact ⟨(wrap64 (x5_1 + (rd l0 x10_1))), (wrap64 (x10_1 + 1)), (by first | rfl | (simp; done) | (simp [*]; done)), (by first | rfl | (simp; done) | (simp [*]; done)), H', ⟨by have := HK1.out; omega⟩, by repeat (first | exact Drawn0.refl _ | apply Drawn0.step)⟩
              · rw [if_neg c7] at H
                have c7b0 : ((Int.tmod a1 (rd l0 x10_1)) == 0) = false := beq_eq_false_iff_ne.mpr c7
                have c7b1 : ((Int.tmod a1 (rd l0 x10_1)) != 0) = true := bne_iff_ne.mpr c7
                have H' := Aside0.mk H
                clear H
                have p563 : 0 ≤ (x10_1 : Int) := of_decide_eq_true (by first | (with_reducible assumption) | assumption)
                have q563 : x10_1 < (l0.length : Int) := of_decide_eq_true (by first | (with_reducible assumption) | assumption)
                obtain ⟨ad563, e563, hx563_0⟩ := Kd.at_int HR0.out x10_1 p563 q563
                cases e563
                replace p563 := eq_true p563
                replace q563 := eq_true q563
                go_wp2
                go_roundg k1
                case measure => have := HK1.out; omega
                case rel => exact ⟨(x5_1), (wrap64 (x10_1 + 1)), (by first | rfl | (simp; done) | (simp [*]; done)), (by first | rfl | (simp; done) | (simp [*]; done)), H', ⟨by have := HK1.out; omega⟩, by repeat (first | exact Drawn0.refl _ | apply Drawn0.step)⟩
          · rw [if_neg c5] at H
            exact absurd H (by simp)
        · rw [if_neg c4] at H
          exact absurd H (by simp)
      · rw [if_neg c3] at H
        have c3b0 := decide_eq_false c3
        clear c3
        obtain rfl := Option.some.inj H
        go_wp2
        go_ret
        exact ⟨by first | rfl | (simp; done) | (simp [*]; done), by repeat (first | exact Drawn0.refl _ | apply Drawn0.step)⟩
end Go.Proofs.YtkgngggppcmpfaaGreat.L
end
section
namespace Go.Proofs.YtkgngggppcmpfaaGreat.L
open Go.RowKit Go.Proofs.YtkgngggppcmpfaaGreatW.PrintWords Go.Proofs.YtkgngggppcmpfaaGreatW.PrintLast Go.Proofs.YtkgngggppcmpfaaGreatW.PrintMore Go.Proofs.YtkgngggppcmpfaaGreat.X
attribute [local go_sem] max2_int min2_int max_two min_two max_three min_three max_four min_four
set_option linter.unusedVariables false
set_option linter.unusedSimpArgs false
def impl_RowFixed.j0 : Nat → Int → Int → Int → Bool → Option (Int × Bool)
  | 0, _, _, _, _ => none
  | k + 1, x0, x1, x2, x16 => if x16 = true then (some (0, false)) else ((impl_rowLengths.f k x0 x1).bind fun t566 => ((impl_fixed.f k t566 x2).bind fun t569 => (some (t569, true))))
def impl_RowFixed.f (k : Nat) (a0 : Int) (a1 : Int) (a2 : Int) : Option (Int × Bool) := (impl_areSides.f a0 a1 10).bind fun t564 => (if t564 = true then ((impl_within.f a2 0 60).bind fun t565 => (impl_RowFixed.j0 k a0 a1 a2 (!t565))) else (impl_RowFixed.j0 k a0 a1 a2 true))
theorem impl_RowFixed.mono_l : ∀ k, (∀ y0 y1 y2 y3, LeO (impl_RowFixed.j0 k y0 y1 y2 y3) (impl_RowFixed.j0 (k + 1) y0 y1 y2 y3))
  | 0 => fun _ _ _ _ r h => by simp [impl_RowFixed.j0] at h
  | k + 1 => by
    have ih0 := impl_RowFixed.mono_l k
    · intro y0 y1 y2 y3
      unfold impl_RowFixed.j0
      repeat' first
      | (with_reducible exact ih0 _ _ _ _)
      | (with_reducible exact impl_fixed.mono _ _ _)
      | (with_reducible exact impl_rowLengths.mono _ _ _)
      | (with_reducible exact LeO.refl _)
      | (with_reducible exact LeO.none _)
      | (with_reducible refine LeO.ite ?_ ?_)
      | (with_reducible refine LeO.bind ?_ (fun _ => ?_))
      | exact ih0 _ _ _ _
      | exact impl_fixed.mono _ _ _
      | exact impl_rowLengths.mono _ _ _
      | exact LeO.none _
      | refine LeO.ite ?_ ?_
      | refine LeO.bind ?_ (fun _ => ?_)
theorem impl_RowFixed.mono : ∀ a0 a1 a2 k, LeO (impl_RowFixed.f k a0 a1 a2) (impl_RowFixed.f (k + 1) a0 a1 a2) := by
  intro a0 a1 a2 k
  have ih0 := impl_RowFixed.mono_l k
  unfold impl_RowFixed.f
  repeat' (with_reducible first | apply ih0 | apply impl_fixed.mono | apply impl_rowLengths.mono | exact LeO.refl _ | exact LeO.none _ | refine LeO.ite ?_ ?_ | refine LeO.bind ?_ (fun _ => ?_))
set_option maxHeartbeats 8000000 in
set_option maxRecDepth 100000 in
theorem impl_RowFixed.calls (k : Nat) (a0 : Int) (a1 : Int) (a2 : Int) (r1 : Int) (r2 : Bool) (w : World) (h : impl_RowFixed.f k a0 a1 a2 = some (r1, r2)) :
    Calls Tryz.prog 66 #[.int .i64 a0, .int .i64 a1, .int .i64 a2] w fun e w' => e = .returned (.tuple #[.int .i64 r1, .bool r2]) ∧ Below w.heap.size w w' := by
  have HB := Aside0.mk (Below.refl w.heap.size w)
  have H : ((impl_areSides.f a0 a1 10).bind fun t564 => (if t564 = true then ((impl_within.f a2 0 60).bind fun t565 => (impl_RowFixed.j0 k a0 a1 a2 (!t565))) else (impl_RowFixed.j0 k a0 a1 a2 true))) = some (r1, r2) := h
  clear h
  have HC4 := Aside0.mk H
  clear H
  go_enter Tryz.func66, Tryz.ntmps66
  go_upto_region 1 with (fail)
  go_cut [16] (fun v16 wc => ∃ (kq : Nat) (x16_3 : Bool), v16 = .bool x16_3 ∧ Aside0 (impl_RowFixed.j0 kq a0 a1 a2 x16_3 = some (r1, r2)) ∧ Aside0 (kq ≤ k) ∧ Aside0 (Below w.heap.size w wc))
  case first =>
    have H := HC4.out
    clear HC4
    obtain ⟨t564, A5, H⟩ := bs H; (try dsimp only at H)
    by_cases c6 : t564 = true
    · subst c6
      rw [if_pos rfl] at H
      obtain ⟨t565, A7, H⟩ := bs H; (try dsimp only at H)
      have H' := Aside0.mk H
      clear H
      go_wp2_with (first | (refine gA (some 10) Tryz.func206 #[.int .i64 a0, .int .i64 a1, .int .i64 10] ?_; (with_reducible refine (impl_areSides.calls a0 a1 10 true _ A5.out).mono ?_); rintro e w' ⟨rfl, ⟨nd, rfl⟩⟩; refine ⟨_, rfl, ?_⟩) | (go_at_call 159; (with_reducible refine (impl_within.calls a2 0 60 t565 _ A7.out).mono ?_); rintro e w' ⟨rfl, ⟨nd, rfl⟩⟩))
      go_meet
      case rel => exact ⟨_, (!t565), (by first | rfl | (simp; done) | (simp [*]; done)), H', ⟨by first | omega | exact Nat.le_refl _⟩, ⟨uB HB⟩⟩
    · replace c6 := Bool.eq_false_iff.mpr c6
      subst c6
      rw [if_neg (show ¬ (false = true) by decide)] at H
      have H' := Aside0.mk H
      clear H
      go_wp2_with (first | (refine gA (some 10) Tryz.func206 #[.int .i64 a0, .int .i64 a1, .int .i64 10] ?_; (with_reducible refine (impl_areSides.calls a0 a1 10 false _ A5.out).mono ?_); rintro e w' ⟨rfl, ⟨nd, rfl⟩⟩; refine ⟨_, rfl, ?_⟩))
      go_meet
      case rel => exact ⟨_, (true), (by first | rfl | (simp; done) | (simp [*]; done)), H', ⟨by first | omega | exact Nat.le_refl _⟩, ⟨uB HB⟩⟩
  case rest =>
    clear HC4
    skip
    obtain ⟨kq, x16_3, rfl, HA, HJ3, HB⟩ := hcut
    cases kq with
    | zero => exact absurd HA.out (by simp [impl_RowFixed.j0])
    | succ kj3 =>
      have H := HA.out
      clear HA
      simp only [impl_RowFixed.j0] at H
      by_cases c8 : x16_3 = true
      · subst c8
        rw [if_pos rfl] at H
        simp only [Option.some.injEq, Prod.mk.injEq] at H
        obtain ⟨rfl, rfl⟩ := H
        go_wp2
        go_ret2
        exact ⟨by first | rfl | (simp [errW_none, errW_some] <;> rfl) | (simp [*, errW_none, errW_some] <;> rfl), uB HB⟩
      · replace c8 := Bool.eq_false_iff.mpr c8
        subst c8
        rw [if_neg (show ¬ (false = true) by decide)] at H
        obtain ⟨t566, A9, H⟩ := bs H; (try dsimp only at H)
        obtain ⟨t569, A10, H⟩ := bs H; (try dsimp only at H)
        simp only [Option.some.injEq, Prod.mk.injEq] at H
        obtain ⟨rfl, rfl⟩ := H
        go_wp2_with (first | (refine gA (some 19) Tryz.func208 #[.int .i64 a0, .int .i64 a1] ?_; (with_reducible refine (impl_rowLengths.calls kj3 a0 a1 t566 _ A9.out).mono ?_); rintro e w11 ⟨v567, rfl, ho0, hb⟩; refine ⟨_, rfl, ?_⟩; have n0_ := Aside0.mk (Kd.R_lower ho0 (below_size (uB HB))); have n1_ := Aside0.mk (below_step (uB HB) hb); clear HB; have HO568 := n0_; have HB := n1_; clear n0_ n1_; (try clear hb ho0); obtain ⟨Ao12, co12, eo12⟩ := Kd.R_slice HO568.out; subst eo12) | (refine gA (some 21) Tryz.func191 #[.slice Ao12 t566.length co12, .int .i64 a2] ?_; (with_reducible refine (impl_fixed.calls kj3 _ _ t566 a2 t569 _ (uE HO568) ?side2 A10.out).mono ?_); (case side2 => exact (Kd.R_reads' HO568.out).2.1); rintro e w' ⟨rfl, ⟨nd, rfl⟩⟩; refine ⟨_, rfl, ?_⟩))
        go_ret2
        exact ⟨by first | rfl | (simp [errW_none, errW_some] <;> rfl) | (simp [*, errW_none, errW_some] <;> rfl), uB HB⟩
def spec_svTurn.f (a0 : Int) : Option (Bool) := (spec_l1In.f a0 0 60).bind fun t570 => (some t570)
set_option maxHeartbeats 8000000 in
set_option maxRecDepth 100000 in
theorem spec_svTurn.calls (a0 : Int) (r : Bool) (w : World) (h : spec_svTurn.f a0 = some r) :
    Calls Tryz.prog 215 #[.int .i64 a0] w fun e w' => e = .returned (.bool r) ∧ Drawn0 w w' := by
  have H : ((spec_l1In.f a0 0 60).bind fun t570 => (some t570)) = some r := h
  clear h
  obtain ⟨t570, A2, H⟩ := bs H; (try dsimp only at H)
  obtain rfl := Option.some.inj H
  go_enter Tryz.func215, Tryz.ntmps215
  go_wp2_with (first | (refine gA (some 4) Tryz.func192 #[.int .i64 a0, .int .i64 0, .int .i64 60] ?_; (with_reducible refine (spec_l1In.calls a0 0 60 t570 _ A2.out).mono ?_); rintro e w' ⟨rfl, ⟨nd, rfl⟩⟩; refine ⟨_, rfl, ?_⟩))
  go_ret
  exact ⟨by first | rfl | (simp; done) | (simp [*]; done), by repeat (first | exact Drawn0.refl _ | apply Drawn0.step)⟩
mutual
def spec_RowFixed.j0 : Nat → Int → Int → Int → Bool → Option (Int × Bool)
  | 0, _, _, _, _ => none
  | k + 1, x0, x1, x2, x22 => if x22 = true then (some (0, false)) else ((spec_poRectangle.f k x0 x1).bind fun t573 => ((spec_poIdeals.f k t573).bind fun t577 => (spec_RowFixed.l0 k x2 0 t577 (t577.length : Int) 0 t573)))
def spec_RowFixed.l0 : Nat → Int → Int → List Int → Int → Int → List Int → Option (Int × Bool)
  | 0, _, _, _, _, _, _ => none
  | k + 1, x2, x9, x27, x28, x29, x577000 => if x29 < x28 then (if 0 ≤ x29 then (if x29 < (x27.length : Int) then (spec_RowFixed.l1 k x2 x9 (rd x27 x29) (rd x27 x29) 0 x27 x28 x29 x577000) else (none)) else (none)) else (some (x9, true))
def spec_RowFixed.l1 : Nat → Int → Int → Int → Int → Int → List Int → Int → Int → List Int → Option (Int × Bool)
  | 0, _, _, _, _, _, _, _, _, _ => none
  | k + 1, x2, x9, x11, x12, x13, x27, x28, x29, x577000 => if x13 < x2 then ((spec_svRow.f k x577000 x12).bind fun t581 => (spec_RowFixed.l1 k x2 x9 x11 t581 (wrap64 (x13 + 1)) x27 x28 x29 x577000)) else (if x12 = x11 then (spec_RowFixed.l0 k x2 (wrap64 (x9 + 1)) x27 x28 (wrap64 (x29 + 1)) x577000) else (spec_RowFixed.l0 k x2 x9 x27 x28 (wrap64 (x29 + 1)) x577000))
end
def spec_RowFixed.f (k : Nat) (a0 : Int) (a1 : Int) (a2 : Int) : Option (Int × Bool) := (spec_shSides.f a0 a1).bind fun t571 => (if t571 = true then ((spec_svTurn.f a2).bind fun t572 => (spec_RowFixed.j0 k a0 a1 a2 (!t572))) else (spec_RowFixed.j0 k a0 a1 a2 true))
theorem spec_RowFixed.mono_l : ∀ k, (∀ y0 y1 y2 y3, LeO (spec_RowFixed.j0 k y0 y1 y2 y3) (spec_RowFixed.j0 (k + 1) y0 y1 y2 y3)) ∧ (∀ y0 y1 y2 y3 y4 y5, LeO (spec_RowFixed.l0 k y0 y1 y2 y3 y4 y5) (spec_RowFixed.l0 (k + 1) y0 y1 y2 y3 y4 y5)) ∧ (∀ y0 y1 y2 y3 y4 y5 y6 y7 y8, LeO (spec_RowFixed.l1 k y0 y1 y2 y3 y4 y5 y6 y7 y8) (spec_RowFixed.l1 (k + 1) y0 y1 y2 y3 y4 y5 y6 y7 y8))
  | 0 => ⟨fun _ _ _ _ r h => by simp [spec_RowFixed.j0] at h, fun _ _ _ _ _ _ r h => by simp [spec_RowFixed.l0] at h, fun _ _ _ _ _ _ _ _ _ r h => by simp [spec_RowFixed.l1] at h⟩
  | k + 1 => by
    obtain ⟨ih0, ih1, ih2⟩ := spec_RowFixed.mono_l k
    refine ⟨?_, ?_, ?_⟩
    all_goals
      intros
      first | unfold spec_RowFixed.j0 | unfold spec_RowFixed.l0 | unfold spec_RowFixed.l1
      repeat' (with_reducible first | apply ih0 | apply ih1 | apply ih2 | apply spec_poIdeals.mono | apply spec_poRectangle.mono | apply spec_svRow.mono | exact LeO.refl _ | exact LeO.none _ | refine LeO.ite ?_ ?_ | refine LeO.bind ?_ (fun _ => ?_))
theorem spec_RowFixed.mono : ∀ a0 a1 a2 k, LeO (spec_RowFixed.f k a0 a1 a2) (spec_RowFixed.f (k + 1) a0 a1 a2) := by
  intro a0 a1 a2 k
  obtain ⟨ih0, ih1, ih2⟩ := spec_RowFixed.mono_l k
  unfold spec_RowFixed.f
  repeat' (with_reducible first | apply ih0 | apply ih1 | apply ih2 | apply spec_poIdeals.mono | apply spec_poRectangle.mono | apply spec_svRow.mono | exact LeO.refl _ | exact LeO.none _ | refine LeO.ite ?_ ?_ | refine LeO.bind ?_ (fun _ => ?_))
set_option maxHeartbeats 8000000 in
set_option maxRecDepth 100000 in
theorem spec_RowFixed.calls (k : Nat) (a0 : Int) (a1 : Int) (a2 : Int) (r1 : Int) (r2 : Bool) (w : World) (h : spec_RowFixed.f k a0 a1 a2 = some (r1, r2)) :
    Calls Tryz.prog 67 #[.int .i64 a0, .int .i64 a1, .int .i64 a2] w fun e w' => e = .returned (.tuple #[.int .i64 r1, .bool r2]) ∧ Below w.heap.size w w' := by
  have hu26 := Tryz.underlying26
  have HB := Aside0.mk (Below.refl w.heap.size w)
  have H : ((spec_shSides.f a0 a1).bind fun t571 => (if t571 = true then ((spec_svTurn.f a2).bind fun t572 => (spec_RowFixed.j0 k a0 a1 a2 (!t572))) else (spec_RowFixed.j0 k a0 a1 a2 true))) = some (r1, r2) := h
  clear h
  have HC4 := Aside0.mk H
  clear H
  go_enter Tryz.func67, Tryz.ntmps67
  go_upto_region 1 with (fail)
  go_cut [22] (fun v22 wc => ∃ (kq : Nat) (x22_3 : Bool), v22 = .bool x22_3 ∧ Aside0 (spec_RowFixed.j0 kq a0 a1 a2 x22_3 = some (r1, r2)) ∧ Aside0 (kq ≤ k) ∧ Aside0 (Below w.heap.size w wc))
  case first =>
    have H := HC4.out
    clear HC4
    obtain ⟨t571, A5, H⟩ := bs H; (try dsimp only at H)
    by_cases c6 : t571 = true
    · subst c6
      rw [if_pos rfl] at H
      obtain ⟨t572, A7, H⟩ := bs H; (try dsimp only at H)
      have H' := Aside0.mk H
      clear H
      go_wp2_with (first | (refine gA (some 16) Tryz.func203 #[.int .i64 a0, .int .i64 a1] ?_; (with_reducible refine (spec_shSides.calls a0 a1 true _ A5.out).mono ?_); rintro e w' ⟨rfl, ⟨nd, rfl⟩⟩; refine ⟨_, rfl, ?_⟩) | (go_at_call 215; (with_reducible refine (spec_svTurn.calls a2 t572 _ A7.out).mono ?_); rintro e w' ⟨rfl, ⟨nd, rfl⟩⟩))
      go_meet
      case rel => exact ⟨_, (!t572), (by first | rfl | (simp; done) | (simp [*]; done)), H', ⟨by first | omega | exact Nat.le_refl _⟩, ⟨uB HB⟩⟩
    · replace c6 := Bool.eq_false_iff.mpr c6
      subst c6
      rw [if_neg (show ¬ (false = true) by decide)] at H
      have H' := Aside0.mk H
      clear H
      go_wp2_with (first | (refine gA (some 16) Tryz.func203 #[.int .i64 a0, .int .i64 a1] ?_; (with_reducible refine (spec_shSides.calls a0 a1 false _ A5.out).mono ?_); rintro e w' ⟨rfl, ⟨nd, rfl⟩⟩; refine ⟨_, rfl, ?_⟩))
      go_meet
      case rel => exact ⟨_, (true), (by first | rfl | (simp; done) | (simp [*]; done)), H', ⟨by first | omega | exact Nat.le_refl _⟩, ⟨uB HB⟩⟩
  case rest =>
    clear HC4
    skip
    obtain ⟨kq, x22_3, rfl, HA, HJ3, HB⟩ := hcut
    cases kq with
    | zero => exact absurd HA.out (by simp [spec_RowFixed.j0])
    | succ kj3 =>
      have H := HA.out
      clear HA
      simp only [spec_RowFixed.j0] at H
      by_cases c8 : x22_3 = true
      · subst c8
        rw [if_pos rfl] at H
        simp only [Option.some.injEq, Prod.mk.injEq] at H
        obtain ⟨rfl, rfl⟩ := H
        go_wp2
        go_ret2
        exact ⟨by first | rfl | (simp [errW_none, errW_some] <;> rfl) | (simp [*, errW_none, errW_some] <;> rfl), uB HB⟩
      · replace c8 := Bool.eq_false_iff.mpr c8
        subst c8
        rw [if_neg (show ¬ (false = true) by decide)] at H
        obtain ⟨t573, A9, H⟩ := bs H; (try dsimp only at H)
        obtain ⟨t577, A10, H⟩ := bs H; (try dsimp only at H)
        have H' := Aside0.mk H
        clear H
        go_wp2_with (first | (refine gA (some 25) Tryz.func209 #[.int .i64 a0, .int .i64 a1] ?_; (with_reducible refine (spec_poRectangle.calls kj3 a0 a1 t573 _ A9.out).mono ?_); rintro e w11 ⟨v574, rfl, ho0, hb⟩; refine ⟨_, rfl, ?_⟩; have n0_ := Aside0.mk (Kd.R_lower ho0 (below_size (uB HB))); have n1_ := Aside0.mk (below_step (uB HB) hb); clear HB; have HO575 := n0_; have HB := n1_; clear n0_ n1_; (try clear hb ho0)) | (refine bE (N := 8) (cs := #[.slice none 0 0]) (t := 26) ?_; intro gb576 hg w12 hbox hb; have n0_ := Aside0.mk (Kd.R_below (uR HO575) hb); have n1_ := Aside0.mk (below_step (uB HB) hb); have n2_ := Aside0.mk (hbox); have n3_ := Aside0.mk ((by rw [hg]; exact (below_size (uB HB)) : w.heap.size ≤ gb576)); have n4_ := Aside0.mk ((by rw [hg]; exact (below_size (uB HB)) : w.heap.size ≤ gb576)); clear HO575; clear HB; have HO575 := n0_; have HB := n1_; have BK576 := n2_; have GW576 := n3_; have GE576 := n4_; clear n0_ n1_ n2_ n3_ n4_; clear hb hbox hg; obtain ⟨Ao13, co13, eo13⟩ := Kd.R_slice HO575.out; subst eo13; have hcz14_0 := bC BK576; have hfz14_0 := blk_frozen BK576.out 0) | (refine gA (some 27) Tryz.func171 #[.agg #[.slice Ao13 t573.length co13]] ?_; (with_reducible refine (spec_poIdeals.calls kj3 _ _ t573 t577 _ ?side1 ?side2 A10.out).mono ?_); (case side1 => refine (Kd.R_reads' (e := 3) (base := w.heap.size) (ok := fun k_ => True) (n := t573.length) (c := co13) ?_).2.2; exact (rF HO575 BK576 (.slice Ao13 t573.length co13))); (case side2 => exact (Kd.R_reads' HO575.out).2.1); rintro e w15 ⟨v578, rfl, ho0, hb⟩; refine ⟨_, rfl, ?_⟩; have n0_ := Aside0.mk (Kd.R_elder' (rF HO575 BK576 (.slice Ao13 t573.length co13)) (Kd.R_base ho0) hb); have n1_ := Aside0.mk (Kd.R_lower (Kd.R_new' ho0 (Kd.R_lt (rF HO575 BK576 (.slice Ao13 t573.length co13)))) (below_size (vB HB))); have n2_ := Aside0.mk (blk_below (g := gb576) (o := .cells #[.slice Ao13 t573.length co13] 26 (0, 0)) bP hb); have n3_ := Aside0.mk (below_step (vB HB) hb); clear HO575; clear BK576; clear HB; have HO575 := n0_; have HO579 := n1_; have BK576 := n2_; have HB := n3_; clear n0_ n1_ n2_ n3_; (try clear hb ho0); obtain ⟨Ao16, co16, eo16⟩ := Kd.R_slice HO579.out; subst eo16))
        go_loopg [9, 29] kj3 (fun kq v9 v29 w' => ∃ (x9_2 : Int) (x29_2 : Int), v9 = .int .i64 x9_2 ∧ v29 = .int .i64 x29_2 ∧ Aside0 (spec_RowFixed.l0 kq a2 x9_2 t577 (t577.length : Int) x29_2 t573 = some (r1, r2)) ∧ Aside0 (kq ≤ kj3) ∧ Aside0 (Kd.R (Kd.int .i64) 3 w' w.heap.size (fun k_ => some k_ ≠ ((.slice Ao13 t573.length co13) : Value).ownBlock) (.slice Ao16 t577.length co16) t577) ∧ Aside0 (Kd.R (Kd.int .i64) 3 w' w.heap.size (fun k_ => some k_ ≠ ((.slice Ao16 t577.length co16) : Value).ownBlock) (.slice Ao13 t573.length co13) t573) ∧ Aside0 (w'.heap[gb576]? = some (.cells #[(.slice Ao13 t573.length co13)] 26 (0, 0))) ∧ Aside0 (Below w.heap.size w w'))
        case atStart => exact ⟨(0), (0), (by first | rfl | (simp; done) | (simp [*]; done)), (by first | rfl | (simp; done) | (simp [*]; done)), H', ⟨Nat.le_refl _⟩, ⟨Kd.R_mono (uR HO579) (fun _ hk => hk.2)⟩, ⟨Kd.R_mono (uR HO575) (fun _ hk => hk.2)⟩, ⟨uK BK576⟩, ⟨(vB HB)⟩⟩
        case round =>
          clear H'
          try clear hcz14_0 hfz14_0
          obtain ⟨x9_2, x29_2, rfl, rfl, HA, HK2, HO_27, HO_577000, BK576, HB⟩ := hrel
          cases gk with
          | zero => exact absurd HA.out (by simp [spec_RowFixed.l0])
          | succ k2 =>
            have H := HA.out
            clear HA
            simp only [spec_RowFixed.l0] at H
            by_cases c17 : x29_2 < (t577.length : Int)
            · rw [if_pos c17] at H
              have c17b0 := decide_eq_true c17
              clear c17
              by_cases c18 : 0 ≤ x29_2
              · rw [if_pos c18] at H
                have c18b0 := decide_eq_true c18
                clear c18
                by_cases c19 : x29_2 < (t577.length : Int)
                · rw [if_pos c19] at H
                  have c19b0 := decide_eq_true c19
                  clear c19
                  have H' := Aside0.mk H
                  clear H
                  have p580 : 0 ≤ (x29_2 : Int) := of_decide_eq_true (by first | (with_reducible assumption) | assumption)
                  have q580 : x29_2 < (t577.length : Int) := of_decide_eq_true (by first | (with_reducible assumption) | assumption)
                  obtain ⟨ad580, e580, hx580_0⟩ := Kd.at_int (Kd.R_reads' HO_27.out).2.2 x29_2 p580 q580
                  cases e580
                  replace p580 := eq_true p580
                  replace q580 := eq_true q580
                  go_wp2
                  go_loopg [12, 13] k2 (fun kq v12 v13 w' => ∃ (x12_3 : Int) (x13_3 : Int), v12 = .int .i64 x12_3 ∧ v13 = .int .i64 x13_3 ∧ Aside0 (spec_RowFixed.l1 kq a2 x9_2 (rd t577 x29_2) x12_3 x13_3 t577 (t577.length : Int) x29_2 t573 = some (r1, r2)) ∧ Aside0 (kq ≤ k2) ∧ Aside0 (Kd.R (Kd.int .i64) 3 w' w.heap.size (fun k_ => some k_ ≠ ((.slice Ao13 t573.length co13) : Value).ownBlock) (.slice (some ad580) t577.length co16) t577) ∧ Aside0 (Kd.R (Kd.int .i64) 3 w' w.heap.size (fun k_ => some k_ ≠ ((.slice (some ad580) t577.length co16) : Value).ownBlock) (.slice Ao13 t573.length co13) t573) ∧ Aside0 (w'.heap[gb576]? = some (.cells #[(.slice Ao13 t573.length co13)] 26 (0, 0))) ∧ Aside0 (Below w.heap.size w w'))
                  case atStart => exact ⟨(rd t577 x29_2), (0), (by first | rfl | (simp; done) | (simp [*]; done)), (by first | rfl | (simp; done) | (simp [*]; done)), H', ⟨Nat.le_refl _⟩, ⟨uR HO_27⟩, ⟨uR HO_577000⟩, ⟨uK BK576⟩, ⟨(vB HB)⟩⟩
                  case round =>
                    clear H'
                    try clear c17b0 c18b0 c19b0 hx580_0 p580 q580
                    obtain ⟨x12_3, x13_3, rfl, rfl, HA, HK3, HO_27, HO_577000, BK576, HB⟩ := hrel
                    cases gk with
                    | zero => exact absurd HA.out (by simp [spec_RowFixed.l1])
                    | succ k3 =>
                      have H := HA.out
                      clear HA
                      simp only [spec_RowFixed.l1] at H
                      by_cases c20 : x13_3 < a2
                      · rw [if_pos c20] at H
                        have c20b0 := decide_eq_true c20
                        clear c20
                        obtain ⟨t581, A21, H⟩ := bs H; (try dsimp only at H)
                        have H' := Aside0.mk H
                        clear H
                        have hcz22_0 := bC BK576
                        have hfz22_0 := blk_frozen BK576.out 0
                        go_wp2_with (first | (refine gA (some 41) Tryz.func211 #[.agg #[.slice Ao13 t573.length co13], .int .i64 x12_3] ?_; (with_reducible refine (spec_svRow.calls k3 _ _ t573 x12_3 t581 _ (uE HO_577000) ?side2 A21.out).mono ?_); (case side2 => exact (Kd.R_reads' HO_577000.out).2.1); rintro e w23 ⟨rfl, hb⟩; refine ⟨_, rfl, ?_⟩; have n0_ := Aside0.mk (Kd.R_below (uR HO_27) hb); have n1_ := Aside0.mk (Kd.R_below (uR HO_577000) hb); have n2_ := Aside0.mk (blk_below (uK BK576) hb); have n3_ := Aside0.mk (below_step (vB HB) hb); clear HO_27; clear HO_577000; clear BK576; clear HB; have HO_27 := n0_; have HO_577000 := n1_; have BK576 := n2_; have HB := n3_; clear n0_ n1_ n2_ n3_; (try clear hb)))
                        go_roundg k3
                        case measure => have := HJ3.out; have := HK2.out; have := HK3.out; omega
                        case rel => exact ⟨(t581), (wrap64 (x13_3 + 1)), (by first | rfl | (simp; done) | (simp [*]; done)), (by first | rfl | (simp; done) | (simp [*]; done)), H', ⟨by have := HJ3.out; have := HK2.out; have := HK3.out; omega⟩, ⟨uR HO_27⟩, ⟨uR HO_577000⟩, ⟨uK BK576⟩, ⟨(vB HB)⟩⟩
                      · rw [if_neg c20] at H
                        have c20b0 := decide_eq_false c20
                        clear c20
                        by_cases c24 : x12_3 = (rd t577 x29_2)
                        · rw [if_pos c24] at H
                          have c24b0 : (x12_3 == (rd t577 x29_2)) = true := beq_iff_eq.mpr c24
                          have c24b1 : (x12_3 != (rd t577 x29_2)) = false := bne_eq_false_iff_eq.mpr c24
                          clear c24
                          have H' := Aside0.mk H
                          clear H
                          go_wp2
                          go_roundg k3
                          case measure => have := HJ3.out; have := HK2.out; have := HK3.out; omega
                          case rel => exact ⟨(wrap64 (x9_2 + 1)), (wrap64 (x29_2 + 1)), (by first | rfl | (simp; done) | (simp [*]; done)), (by first | rfl | (simp; done) | (simp [*]; done)), H', ⟨by have := HJ3.out; have := HK2.out; have := HK3.out; omega⟩, ⟨uR HO_27⟩, ⟨uR HO_577000⟩, ⟨uK BK576⟩, ⟨(vB HB)⟩⟩
                        · rw [if_neg c24] at H
                          have c24b0 : (x12_3 == (rd t577 x29_2)) = false := beq_eq_false_iff_ne.mpr c24
                          have c24b1 : (x12_3 != (rd t577 x29_2)) = true := bne_iff_ne.mpr c24
                          have H' := Aside0.mk H
                          clear H
                          go_wp2
                          go_roundg k3
                          case measure => have := HJ3.out; have := HK2.out; have := HK3.out; omega
                          case rel => exact ⟨(x9_2), (wrap64 (x29_2 + 1)), (by first | rfl | (simp; done) | (simp [*]; done)), (by first | rfl | (simp; done) | (simp [*]; done)), H', ⟨by have := HJ3.out; have := HK2.out; have := HK3.out; omega⟩, ⟨uR HO_27⟩, ⟨uR HO_577000⟩, ⟨uK BK576⟩, ⟨(vB HB)⟩⟩
                · rw [if_neg c19] at H
                  exact absurd H (by simp)
              · rw [if_neg c18] at H
                exact absurd H (by simp)
            · rw [if_neg c17] at H
              have c17b0 := decide_eq_false c17
              clear c17
              simp only [Option.some.injEq, Prod.mk.injEq] at H
              obtain ⟨rfl, rfl⟩ := H
              go_wp2
              go_ret2
              exact ⟨by first | rfl | (simp [errW_none, errW_some] <;> rfl) | (simp [*, errW_none, errW_some] <;> rfl), (vB HB)⟩
end Go.Proofs.YtkgngggppcmpfaaGreat.L
end
section
namespace Go.Proofs.YtkgngggppcmpfaaGreat.L
open Go.RowKit Go.Proofs.YtkgngggppcmpfaaGreatW.PrintWords Go.Proofs.YtkgngggppcmpfaaGreatW.PrintLast Go.Proofs.YtkgngggppcmpfaaGreatW.PrintMore
attribute [local go_sem] max2_int min2_int max_two min_two max_three min_three max_four min_four
set_option linter.unusedVariables false
set_option linter.unusedSimpArgs false
open Go.Proofs.YtkgngggppcmpfaaGreat.X in
set_option maxHeartbeats 400000 in
set_option maxRecDepth 100000 in
theorem slices_IndexFunc.calls (A0 : Option Addr) (c0 : Nat) (l0 : List Int) (g : Nat) (lb : Array Value) (p : Int → Bool) (w : World) (eg : ∀ args w, (callFunc g args).run Tryz.prog w = .ok (.enter g args) w)
    (hr0 : Kd.C (Kd.int .i64) w A0 l0.length l0) (hl : l0.length ≤ 9223372036854775806) (hp : ∀ x, x ∈ l0 → Fv Tryz.prog g lb #[.int .i64 x] (.bool (p x)) w) :
    Calls Tryz.prog 287 #[.slice A0 l0.length c0, .func (.func g) #[] lb] w fun e w' => e = .returned (.int .i64 (idxOf p l0)) ∧ Below w.heap.size w w' := by
  have HR0 := Aside0.mk hr0
  have HP := Aside0.mk hp
  clear hr0 hp
  go_enter Tryz.func287, Tryz.ntmps287
  go_wp2
  go_loopw [8] (fun v8 wr => ∃ k : Nat, k ≤ l0.length ∧ v8 = .int .i64 k ∧ Aside0 (idxOf p l0 = idxFrom p (l0.drop k) k) ∧ Aside0 (Below w.heap.size w wr)) (fun v8 _ => l0.length - (intOf v8).toNat)
  case atStart => exact ⟨0, Nat.zero_le _, rfl, ⟨rfl⟩, ⟨Below.refl _ _⟩⟩
  case round =>
    obtain ⟨k, hk, rfl, HI, HB⟩ := hrel
    by_cases hlt : k < l0.length
    · have hdrop : l0.drop k = l0[k] :: l0.drop (k + 1) := (List.drop_eq_getElem_cons hlt)
      have hrd : rd l0 (k : Int) = l0[k] := by simp [rd, List.getD_eq_getElem?_getD, hlt]
      have hmem : l0[k] ∈ l0 := List.getElem_mem hlt
      have hfv := HP.out _ hmem
      rw [← hrd] at hfv
      have hI3 := Aside0.mk (show idxOf p l0 = if p (rd l0 (k : Int)) then (k : Int) else idxFrom p (l0.drop (k + 1)) (k + 1) by rw [hrd, HI.out, hdrop, idxFrom])
      have HF := Aside0.mk hfv
      clear hfv hdrop hrd HI hmem
      have p1 : 0 ≤ ((k : Nat) : Int) := by omega
      have q1 : ((k : Nat) : Int) < (l0.length : Int) := by omega
      obtain ⟨ad, e1, hx⟩ := Kd.at_int (Kd.C_below HR0.out HB.out) k p1 q1
      rw [Int.toNat_natCast] at hx
      cases e1
      by_cases hp : p (rd l0 (k : Int)) = true
      all_goals
        have hP := Aside0.mk hp
        go_wp2_with (go_at_fn g; (with_reducible refine (Fv.calls HF.out HB.out).mono ?_); rintro e w2 ⟨rfl, hb⟩)
        first | go_ret | go_roundw
      · exact ⟨by rw [hI3.out, if_pos hP.out]; rfl, below_to HB.out hb⟩
      case rel => exact ⟨k + 1, by omega, by go_num, ⟨by rw [hI3.out, if_neg hP.out]⟩, ⟨below_to HB.out hb⟩⟩
      case measure => simp [intOf]; omega
    · go_wp2
      go_ret
      exact ⟨by rw [HI.out, List.drop_of_length_le (by omega)]; rfl, HB.out⟩
open Go.Proofs.YtkgngggppcmpfaaGreat.X in
set_option maxHeartbeats 400000 in
set_option maxRecDepth 100000 in
theorem slices_ContainsFunc.calls (A0 : Option Addr) (c0 : Nat) (l0 : List Int) (g : Nat) (lb : Array Value) (p : Int → Bool) (w : World) (eg : ∀ args w, (callFunc g args).run Tryz.prog w = .ok (.enter g args) w)
    (hr0 : Kd.C (Kd.int .i64) w A0 l0.length l0) (hl : l0.length ≤ 9223372036854775806) (hp : ∀ x, x ∈ l0 → Fv Tryz.prog g lb #[.int .i64 x] (.bool (p x)) w) :
    Calls Tryz.prog 166 #[.slice A0 l0.length c0, .func (.func g) #[] lb] w fun e w' => e = .returned (.bool (l0.any p)) ∧ Below w.heap.size w w' := by
  have EG := Aside0.mk eg
  have HR0 := Aside0.mk hr0
  have HP := Aside0.mk hp
  clear hr0 hp eg
  go_enter Tryz.func166, Tryz.ntmps166
  go_wp2_with (go_at_call 287; (with_reducible refine (slices_IndexFunc.calls _ _ l0 g lb p _ EG.out HR0.out hl HP.out).mono ?_); rintro e w2 ⟨rfl, hb⟩)
  go_ret
  refine ⟨?_, hb⟩
  have := idxFrom_any p l0 0
  unfold idxOf
  by_cases h : l0.any p = true
  · rw [h] at this ⊢; simp [this.mpr rfl]
  · have h2 : ¬ (0 ≤ idxFrom p l0 0) := fun z => h (this.mp z)
    simp [Bool.eq_false_iff.mpr h, h2]
def impl_areUpTo.p (m n : Int) : Bool := !(decide (0 ≤ n) && decide (n ≤ m))
def impl_areUpTo.f (l0 : List Int) (a1 : Int) : Option (Bool) := if l0.length ≤ 9223372036854775806 then some (!(l0.any (impl_areUpTo.p a1))) else none
open Go.Proofs.YtkgngggppcmpfaaGreat.X in
set_option maxHeartbeats 400000 in
theorem impl_areUpTo.lit (n m : Int) (B : Nat) (w : World) (hB : B < w.heap.size) (hc : w.cell? ⟨B, 0, none⟩ = some (.int .i64 m)) :
    Fv Tryz.prog 302 #[.pointer (some ⟨B, 0, none⟩)] #[.int .i64 n] (.bool (impl_areUpTo.p m n)) w := by
  intro W hb
  have hc' : W.cell? ⟨B, 0, none⟩ = some (.int .i64 m) := (hb.cell (p := ⟨B, 0, none⟩) hB).trans hc
  obtain ⟨b, HW, hp⟩ : ∃ b, impl_within.f n 0 m = some b ∧ impl_areUpTo.p m n = !b := ⟨decide (0 ≤ n) && decide (n ≤ m), by unfold impl_within.f; by_cases h : 0 ≤ n <;> simp [h], rfl⟩
  rw [hp]
  have HA := Aside0.mk HW
  clear HW hp
  go_enter Tryz.func302, Tryz.ntmps302
  go_wp2_with (go_at_call 159; (with_reducible refine (impl_within.calls n 0 m b _ HA.out).mono ?_); rintro e w' ⟨rfl, ⟨nd, rfl⟩⟩)
  go_ret
  exact ⟨rfl, pw_below_drewN (Below.refl _ _) _⟩
open Go.Proofs.YtkgngggppcmpfaaGreat.X in
set_option maxHeartbeats 400000 in
theorem impl_areUpTo.calls (A0 : Option Addr) (c0 : Nat) (l0 : List Int) (a1 : Int) (r : Bool) (w : World) (hr0 : Kd.C (Kd.int .i64) w A0 l0.length l0) (hc0 : l0.length ≤ c0) (h : impl_areUpTo.f l0 a1 = some r) :
    Calls Tryz.prog 216 #[.slice A0 l0.length c0, .int .i64 a1] w fun e w' => e = .returned (.bool r) ∧ Below w.heap.size w w' := by
  unfold impl_areUpTo.f at h
  split at h
  · rename_i hl
    obtain rfl := Option.some.inj h
    clear h
    have HR0 := Aside0.mk hr0
    have HL := Aside0.mk hl
    clear hr0 hl hc0
    have hC := Aside0.mk fun (W : World) (hB : w.heap.size < W.heap.size) (hcw : Kd.C (Kd.int .i64) W A0 l0.length l0) (hc : W.cell? ⟨w.heap.size, 0, none⟩ = some (.int .i64 a1)) =>
      slices_ContainsFunc.calls A0 c0 l0 302 #[.pointer (some ⟨w.heap.size, 0, none⟩)] (impl_areUpTo.p a1) W (enters_ Tryz.func302 (by kernel_rfl) rfl) hcw HL.out (fun x _ => impl_areUpTo.lit x a1 _ W hB hc)
    go_enter Tryz.func216, Tryz.ntmps216
    go_wp2_with (go_at_call 166; refine (hC.out _ (by simp) (Kd.C_alloc HR0.out _) (by simp)).mono ?_; rintro e w' ⟨rfl, hb⟩)
    go_ret
    exact ⟨rfl, ((Below.refl _ w).alloc (Nat.le_refl _) _).trans (hb.mono (by simp))⟩
  · exact absurd h (by simp)
end Go.Proofs.YtkgngggppcmpfaaGreat.L
end
section
namespace Go.Proofs.YtkgngggppcmpfaaGreat.L
open Go.RowKit Go.Proofs.YtkgngggppcmpfaaGreatW.PrintWords Go.Proofs.YtkgngggppcmpfaaGreatW.PrintLast Go.Proofs.YtkgngggppcmpfaaGreatW.PrintMore Go.Proofs.YtkgngggppcmpfaaGreat.X
attribute [local go_sem] max2_int min2_int max_two min_two max_three min_three max_four min_four
set_option linter.unusedVariables false
set_option linter.unusedSimpArgs false
def impl_isTurn.f (a0 : Int) : Option (Bool) := (impl_within.f a0 1 60).bind fun t582 => (some t582)
set_option maxHeartbeats 8000000 in
set_option maxRecDepth 100000 in
theorem impl_isTurn.calls (a0 : Int) (r : Bool) (w : World) (h : impl_isTurn.f a0 = some r) :
    Calls Tryz.prog 217 #[.int .i64 a0] w fun e w' => e = .returned (.bool r) ∧ Drawn0 w w' := by
  have H : ((impl_within.f a0 1 60).bind fun t582 => (some t582)) = some r := h
  clear h
  obtain ⟨t582, A2, H⟩ := bs H; (try dsimp only at H)
  obtain rfl := Option.some.inj H
  go_enter Tryz.func217, Tryz.ntmps217
  go_wp2_with (first | (refine gA (some 4) Tryz.func159 #[.int .i64 a0, .int .i64 1, .int .i64 60] ?_; (with_reducible refine (impl_within.calls a0 1 60 t582 _ A2.out).mono ?_); rintro e w' ⟨rfl, ⟨nd, rfl⟩⟩; refine ⟨_, rfl, ?_⟩))
  go_ret
  exact ⟨by first | rfl | (simp; done) | (simp [*]; done), by repeat (first | exact Drawn0.refl _ | apply Drawn0.step)⟩
mutual
def impl_RemaindersOf.j0 : Nat → List Int → Int → Bool → Option (List Int × Bool)
  | 0, _, _, _ => none
  | k + 1, x0, x1, x22 => if x22 = true then (some (([] : List Int), false)) else (if 0 ≤ x1 then (if (x1 : Int).toNat ≤ 35184372088832 then (impl_RemaindersOf.l0 k x1 (List.replicate (x1 : Int).toNat 0) x0 (x0.length : Int) 0) else (none)) else (none))
def impl_RemaindersOf.l0 : Nat → Int → List Int → List Int → Int → Int → Option (List Int × Bool)
  | 0, _, _, _, _, _ => none
  | k + 1, x1, x6, x25, x26, x27 => if x27 < x26 then (if 0 ≤ x27 then (if x27 < (x25.length : Int) then (if x1 = 0 then (none) else (if 0 ≤ (Int.tmod x27 x1) then (if (Int.tmod x27 x1) < (x6.length : Int) then (impl_RemaindersOf.l0 k x1 (x6.set ((Int.tmod x27 x1) : Int).toNat (wrap64 ((rd x6 (Int.tmod x27 x1)) + (rd x25 x27)))) x25 x26 (wrap64 (x27 + 1))) else (none)) else (none))) else (none)) else (none)) else (some (x6, true))
end
def impl_RemaindersOf.f (k : Nat) (l0 : List Int) (a1 : Int) : Option (List Int × Bool) := (impl_within.f (l0.length : Int) 1 100).bind fun t583 => (if t583 = true then ((impl_areUpTo.f l0 1000000).bind fun t584 => (if t584 = true then ((impl_isTurn.f a1).bind fun t585 => (impl_RemaindersOf.j0 k l0 a1 (!t585))) else (impl_RemaindersOf.j0 k l0 a1 true))) else (impl_RemaindersOf.j0 k l0 a1 true))
theorem impl_RemaindersOf.mono_l : ∀ k, (∀ y0 y1 y2, LeO (impl_RemaindersOf.j0 k y0 y1 y2) (impl_RemaindersOf.j0 (k + 1) y0 y1 y2)) ∧ (∀ y0 y1 y2 y3 y4, LeO (impl_RemaindersOf.l0 k y0 y1 y2 y3 y4) (impl_RemaindersOf.l0 (k + 1) y0 y1 y2 y3 y4))
  | 0 => ⟨fun _ _ _ r h => by simp [impl_RemaindersOf.j0] at h, fun _ _ _ _ _ r h => by simp [impl_RemaindersOf.l0] at h⟩
  | k + 1 => by
    obtain ⟨ih0, ih1⟩ := impl_RemaindersOf.mono_l k
    refine ⟨?_, ?_⟩
    all_goals
      intros
      first | unfold impl_RemaindersOf.j0 | unfold impl_RemaindersOf.l0
      repeat' (with_reducible first | apply ih0 | apply ih1 | exact LeO.refl _ | exact LeO.none _ | refine LeO.ite ?_ ?_ | refine LeO.bind ?_ (fun _ => ?_))
theorem impl_RemaindersOf.mono : ∀ a0 a1 k, LeO (impl_RemaindersOf.f k a0 a1) (impl_RemaindersOf.f (k + 1) a0 a1) := by
  intro a0 a1 k
  obtain ⟨ih0, ih1⟩ := impl_RemaindersOf.mono_l k
  unfold impl_RemaindersOf.f
  repeat' (with_reducible first | apply ih0 | apply ih1 | exact LeO.refl _ | exact LeO.none _ | refine LeO.ite ?_ ?_ | refine LeO.bind ?_ (fun _ => ?_))
set_option maxHeartbeats 8000000 in
set_option maxRecDepth 100000 in
theorem impl_RemaindersOf.calls (k : Nat) (A0 : Option Addr) (c0 : Nat) (l0 : List Int) (a1 : Int) (r1 : List Int) (r2 : Bool) (w : World) (hr0 : Kd.C (Kd.int .i64) w A0 l0.length l0) (hc0 : l0.length ≤ c0) (h : impl_RemaindersOf.f k l0 a1 = some (r1, r2)) :
    Calls Tryz.prog 68 #[.slice A0 l0.length c0, .int .i64 a1] w fun e w' => ∃ v0_ : Value, e = .returned (.tuple #[v0_, .bool r2]) ∧ Kd.R (Kd.int .i64) 3 w' w.heap.size (fun _ => True) v0_ r1 ∧ Below w.heap.size w w' := by
  have HR0 := Aside0.mk hr0
  have HC0 := Aside0.mk hc0
  clear hr0 hc0
  have HB := Aside0.mk (Below.refl w.heap.size w)
  have H : ((impl_within.f (l0.length : Int) 1 100).bind fun t583 => (if t583 = true then ((impl_areUpTo.f l0 1000000).bind fun t584 => (if t584 = true then ((impl_isTurn.f a1).bind fun t585 => (impl_RemaindersOf.j0 k l0 a1 (!t585))) else (impl_RemaindersOf.j0 k l0 a1 true))) else (impl_RemaindersOf.j0 k l0 a1 true))) = some (r1, r2) := h
  clear h
  have HC3 := Aside0.mk H
  clear H
  go_enter Tryz.func68, Tryz.ntmps68
  go_upto_region 1 with (fail)
  go_cut [22] (fun v22 wc => ∃ (kq : Nat) (x22_2 : Bool), v22 = .bool x22_2 ∧ Aside0 (impl_RemaindersOf.j0 kq l0 a1 x22_2 = some (r1, r2)) ∧ Aside0 (kq ≤ k) ∧ Aside0 (Below w.heap.size w wc))
  case first =>
    have H := HC3.out
    clear HC3
    obtain ⟨t583, A4, H⟩ := bs H; (try dsimp only at H)
    by_cases c5 : t583 = true
    · subst c5
      rw [if_pos rfl] at H
      obtain ⟨t584, A6, H⟩ := bs H; (try dsimp only at H)
      by_cases c7 : t584 = true
      · subst c7
        rw [if_pos rfl] at H
        obtain ⟨t585, A8, H⟩ := bs H; (try dsimp only at H)
        have H' := Aside0.mk H
        clear H
        go_wp2_with (first | (refine gA (some 11) Tryz.func159 #[.int .i64 (l0.length : Int), .int .i64 1, .int .i64 100] ?_; (with_reducible refine (impl_within.calls (l0.length : Int) 1 100 true _ A4.out).mono ?_); rintro e w' ⟨rfl, ⟨nd, rfl⟩⟩; refine ⟨_, rfl, ?_⟩) | (go_at_call 216; (with_reducible refine (impl_areUpTo.calls _ _ l0 1000000 true _ ?side1 HC0.out A6.out).mono ?_); (case side1 => repeat (first | exact (Kd.C_below HR0.out (uB HB)) | (with_reducible refine Kd.C_alloc ?_ _) | (with_reducible refine Kd.C_drewN ?_ _) | (with_reducible refine Kd.C_drew ?_))); rintro e w9 ⟨rfl, hb⟩; have n0_ := Aside0.mk (below_step (uB HB) hb); clear HB; have HB := n0_; clear n0_; (try clear hb)) | (go_at_call 217; (with_reducible refine (impl_isTurn.calls a1 t585 _ A8.out).mono ?_); rintro e w' ⟨rfl, ⟨nd, rfl⟩⟩))
        go_meet
        case rel => exact ⟨_, (!t585), (by first | rfl | (simp; done) | (simp [*]; done)), H', ⟨by first | omega | exact Nat.le_refl _⟩, ⟨uB HB⟩⟩
      · replace c7 := Bool.eq_false_iff.mpr c7
        subst c7
        rw [if_neg (show ¬ (false = true) by decide)] at H
        have H' := Aside0.mk H
        clear H
        go_wp2_with (first | (refine gA (some 11) Tryz.func159 #[.int .i64 (l0.length : Int), .int .i64 1, .int .i64 100] ?_; (with_reducible refine (impl_within.calls (l0.length : Int) 1 100 true _ A4.out).mono ?_); rintro e w' ⟨rfl, ⟨nd, rfl⟩⟩; refine ⟨_, rfl, ?_⟩) | (go_at_call 216; (with_reducible refine (impl_areUpTo.calls _ _ l0 1000000 false _ ?side1 HC0.out A6.out).mono ?_); (case side1 => repeat (first | exact (Kd.C_below HR0.out (uB HB)) | (with_reducible refine Kd.C_alloc ?_ _) | (with_reducible refine Kd.C_drewN ?_ _) | (with_reducible refine Kd.C_drew ?_))); rintro e w10 ⟨rfl, hb⟩; have n0_ := Aside0.mk (below_step (uB HB) hb); clear HB; have HB := n0_; clear n0_; (try clear hb)))
        go_meet
        case rel => exact ⟨_, (true), (by first | rfl | (simp; done) | (simp [*]; done)), H', ⟨by first | omega | exact Nat.le_refl _⟩, ⟨uB HB⟩⟩
    · replace c5 := Bool.eq_false_iff.mpr c5
      subst c5
      rw [if_neg (show ¬ (false = true) by decide)] at H
      have H' := Aside0.mk H
      clear H
      go_wp2_with (first | (refine gA (some 11) Tryz.func159 #[.int .i64 (l0.length : Int), .int .i64 1, .int .i64 100] ?_; (with_reducible refine (impl_within.calls (l0.length : Int) 1 100 false _ A4.out).mono ?_); rintro e w' ⟨rfl, ⟨nd, rfl⟩⟩; refine ⟨_, rfl, ?_⟩))
      go_meet
      case rel => exact ⟨_, (true), (by first | rfl | (simp; done) | (simp [*]; done)), H', ⟨by first | omega | exact Nat.le_refl _⟩, ⟨uB HB⟩⟩
  case rest =>
    clear HC3
    skip
    obtain ⟨kq, x22_2, rfl, HA, HJ2, HB⟩ := hcut
    cases kq with
    | zero => exact absurd HA.out (by simp [impl_RemaindersOf.j0])
    | succ kj2 =>
      have H := HA.out
      clear HA
      simp only [impl_RemaindersOf.j0] at H
      by_cases c11 : x22_2 = true
      · subst c11
        rw [if_pos rfl] at H
        simp only [Option.some.injEq, Prod.mk.injEq] at H
        obtain ⟨rfl, rfl⟩ := H
        go_wp2
        go_ret2
        exact ⟨_, by first | rfl | (simp [errW_none, errW_some] <;> rfl) | (simp [*, errW_none, errW_some] <;> rfl), by first | exact Kd.R_nil _ _ _ _ _ | exact Kd.N_nil _ _ _ _ _ | exact Kd.V_nil _ _ _ _ _ | exact Kd.Q_nil _ _ _ _ _ | exact Kd.S_nil _ _ _ _ _, uB HB⟩
      · replace c11 := Bool.eq_false_iff.mpr c11
        subst c11
        rw [if_neg (show ¬ (false = true) by decide)] at H
        by_cases c12 : 0 ≤ a1
        · rw [if_pos c12] at H
          have c12b0 := eq_true c12
          have c12b1 := decide_eq_true c12
          clear c12
          by_cases c13 : (a1 : Int).toNat ≤ 35184372088832
          · rw [if_pos c13] at H
            have c13b0 := eq_true c13
            have c13b1 := decide_eq_true c13
            clear c13
            obtain ⟨y586, hy586⟩ : ∃ y_ : List Int, y_ = (List.replicate (a1 : Int).toNat 0) := ⟨_, rfl⟩
            replace H : (impl_RemaindersOf.l0 kj2 a1 y586 l0 (l0.length : Int) 0) = some (r1, r2) := by first | (rw [hy586]; with_reducible exact H) | (have H2_ := (Option.bind_some _ _).symm.trans H; rw [hy586]; with_reducible exact H2_) | (have H2_ := (Option.bind_some _ _).symm.trans H; with_reducible exact H2_) | with_reducible exact H | (rw [hy586]; exact H) | exact H
            have Ny586 := Aside0.mk hy586
            clear hy586
            have H' := Aside0.mk H
            clear H
            go_wp2_with (first | ((with_reducible refine gate_dst (N := 24) rfl ?_); refine Kd.R_make (Kd.int .i64) _ 3 rfl (N := 24) rfl 24 _ _ rfl a1 rfl rfl Tryz.underlying24 (.int .i64 0) 8 info3 rfl (by decide) (by omega) 0 (ok := fun _ => True) (okp := fun _ => True) rfl (fun _ hk => hk) trivial (of_decide_eq_true (by first | (with_reducible assumption) | assumption)) (Nat.le_trans (Nat.mul_le_mul_right _ (of_decide_eq_true (by first | (with_reducible assumption) | assumption) : a1.toNat ≤ 35184372088832)) (by omega)) (Below.refl _ _) (Nat.le_refl _) ?_; intro v587 w14 ho15 hb hg_ hnew_; clear hg_ hnew_; (first | rw [← Ny586.out] at ho15 | (simp only [Int.reduceToNat] at ho15; rw [← Ny586.out] at ho15)); have n0_ := Aside0.mk (Kd.R_lower ho15 (below_size (uB HB))); have n1_ := Aside0.mk (below_step (uB HB) hb); clear HB; have HO588 := n0_; have HB := n1_; clear n0_ n1_; clear hb ho15))
            go_loopg [27] kj2 (fun kq v27 w' => ∃ (x6_2 : List Int) (x27_2 : Int), v27 = .int .i64 x27_2 ∧ Aside0 (impl_RemaindersOf.l0 kq a1 x6_2 l0 (l0.length : Int) x27_2 = some (r1, r2)) ∧ Aside0 (kq ≤ kj2) ∧ Aside0 (Kd.R (Kd.int .i64) 3 w' w.heap.size (fun _ => True) v587 x6_2) ∧ Aside0 (Below w.heap.size w w'))
            case atStart => exact ⟨(y586), (0), (by first | rfl | (simp; done) | (simp [*]; done)), H', ⟨Nat.le_refl _⟩, ⟨uR HO588⟩, ⟨uB HB⟩⟩
            case round =>
              clear H'
              try clear c12b0 c12b1 c13b0 c13b1
              obtain ⟨x6_2, x27_2, rfl, HA, HK2, HO_6, HB⟩ := hrel
              cases gk with
              | zero => exact absurd HA.out (by simp [impl_RemaindersOf.l0])
              | succ k2 =>
                have H := HA.out
                clear HA
                simp only [impl_RemaindersOf.l0] at H
                by_cases c16 : x27_2 < (l0.length : Int)
                · rw [if_pos c16] at H
                  have c16b0 := decide_eq_true c16
                  clear c16
                  by_cases c17 : 0 ≤ x27_2
                  · rw [if_pos c17] at H
                    have c17b0 := decide_eq_true c17
                    clear c17
                    by_cases c18 : x27_2 < (l0.length : Int)
                    · rw [if_pos c18] at H
                      have c18b0 := decide_eq_true c18
                      clear c18
                      by_cases c19 : a1 = 0
                      · rw [if_pos c19] at H
                        exact absurd H (by simp)
                      · rw [if_neg c19] at H
                        have c19b0 : (a1 == 0) = false := beq_eq_false_iff_ne.mpr c19
                        have c19b1 : (a1 != 0) = true := bne_iff_ne.mpr c19
                        obtain ⟨ji20, hji20⟩ : ∃ j_ : Int, (Int.tmod x27_2 a1) = j_ := ⟨_, rfl⟩
                        replace H : (if 0 ≤ (ji20) then (if (ji20) < (x6_2.length : Int) then (impl_RemaindersOf.l0 k2 a1 (x6_2.set ((ji20) : Int).toNat (wrap64 ((rd x6_2 (ji20)) + (rd l0 x27_2)))) l0 (l0.length : Int) (wrap64 (x27_2 + 1))) else (none)) else (none)) = some (r1, r2) := by first | (rw [hji20] at H; exact H) | (simp only [hji20] at H ⊢; exact H)
                        by_cases c21 : 0 ≤ (ji20)
                        · rw [if_pos c21] at H
                          have c21b0 := decide_eq_true c21
                          clear c21
                          by_cases c22 : (ji20) < (x6_2.length : Int)
                          · rw [if_pos c22] at H
                            have c22b0 := decide_eq_true c22
                            clear c22
                            obtain ⟨y591, hy591⟩ : ∃ y_ : List Int, y_ = (x6_2.set ((ji20) : Int).toNat (wrap64 ((rd x6_2 (ji20)) + (rd l0 x27_2)))) := ⟨_, rfl⟩
                            replace H : (impl_RemaindersOf.l0 k2 a1 y591 l0 (l0.length : Int) (wrap64 (x27_2 + 1))) = some (r1, r2) := by first | (rw [hy591]; with_reducible exact H) | (have H2_ := (Option.bind_some _ _).symm.trans H; rw [hy591]; with_reducible exact H2_) | (have H2_ := (Option.bind_some _ _).symm.trans H; with_reducible exact H2_) | with_reducible exact H | (rw [hy591]; exact H) | exact H
                            have Ny591 := Aside0.mk hy591
                            clear hy591
                            have H' := Aside0.mk H
                            clear H
                            have p589 : 0 ≤ (x27_2 : Int) := of_decide_eq_true (by first | (with_reducible assumption) | assumption)
                            have q589 : x27_2 < (l0.length : Int) := of_decide_eq_true (by first | (with_reducible assumption) | assumption)
                            obtain ⟨ad589, e589, hx589_0⟩ := Kd.at_int HR0.out x27_2 p589 q589
                            cases e589
                            replace hx589_0 := (HB.out.cell (World.block_lt_of_cell? w _ hx589_0)).trans hx589_0
                            replace p589 := eq_true p589
                            replace q589 := eq_true q589
                            obtain ⟨Ao24, co24, eo24⟩ := Kd.R_slice HO_6.out
                            subst eo24
                            have p590 : 0 ≤ ((ji20) : Int) := of_decide_eq_true (by first | (with_reducible assumption) | assumption)
                            have q590 : (ji20) < (x6_2.length : Int) := of_decide_eq_true (by first | (with_reducible assumption) | assumption)
                            obtain ⟨ad590, e590, hx590_0⟩ := Kd.at_int (Kd.R_reads' HO_6.out).2.2 (ji20) p590 q590
                            cases e590
                            replace p590 := eq_true p590
                            replace q590 := eq_true q590
                            have p23 : 0 ≤ ((ji20) : Int) := of_decide_eq_true (by first | (with_reducible assumption) | assumption)
                            have q23 : ((ji20) : Int) < ((x6_2.length : Int) : Int) := of_decide_eq_true (by first | (with_reducible assumption) | assumption)
                            obtain ⟨go23, co23, eo23, gb23, gl23, cl23, HG23⟩ := Kd.R_form HO_6.out (by omega)
                            (first | cases eo23 | (injection eo23 with ea_ en_ ec_; (first | subst ea_ | (injection ea_ with ea_; subst ea_)); subst ec_; clear en_))
                            have GB23 := Aside0.mk gb23
                            have GG23 := Aside0.mk HG23
                            clear gb23 gl23 HG23
                            (first | simp only [add_plain] at hx590_0 | skip)
                            obtain ⟨hx23_0, hf23_0⟩ := Kd.R_celln 0 HO_6.out ((ji20) : Int) p23 q23
                            replace p23 := eq_true p23
                            replace q23 := eq_true q23
                            have HP25 := Kd.R_putg HO_6.out ((ji20) : Int) (wrap64 ((rd x6_2 (ji20)) + (rd l0 x27_2)))
                            go_wp2_with (first | ((with_reducible refine gate_store (t := 3) (p := 40) rfl ?_); refine store_event (t := 3) (p := 40) (v := ?vo_w26) (w1 := (wr.setCell ⟨go23, ((ji20) : Int).toNat, none⟩ (.int .i64 (wrap64 ((rd x6_2 (ji20)) + (rd l0 x27_2)))))) ?hg ?ho ?hn ?hr ?_; (case ho => rfl); (case hg => rfl); (case hn => rfl); (case hr => first | (go_simp; done) | (go_simp; rfl)); intro w26 hw; have hg : wr.grownBy w26 (some go23) := (by rw [hw]; exact HP25.2); have hp_ : Kd.R (Kd.int .i64) 3 w26 w.heap.size (fun _ => True) (.slice (some ⟨go23, 0, none⟩) x6_2.length co24) y591 := (by rw [hw, Ny591.out]; exact HP25.1); clear HP25; have n0_ := Aside0.mk (hp_); have n1_ := Aside0.mk ((by rw [hw]; exact below_set (HB.out) GB23.out : Below w.heap.size w w26)); clear HO_6; clear HB; have HO_6 := n0_; have HB := n1_; clear n0_ n1_; clear hg hw hp_))
                            go_roundg k2
                            case measure => have := HJ2.out; have := HK2.out; omega
                            case rel => exact ⟨(y591), (wrap64 (x27_2 + 1)), (by first | rfl | (simp; done) | (simp [*]; done)), H', ⟨by have := HJ2.out; have := HK2.out; omega⟩, ⟨uR HO_6⟩, ⟨uB HB⟩⟩
                          · rw [if_neg c22] at H
                            exact absurd H (by simp)
                        · rw [if_neg c21] at H
                          exact absurd H (by simp)
                    · rw [if_neg c18] at H
                      exact absurd H (by simp)
                  · rw [if_neg c17] at H
                    exact absurd H (by simp)
                · rw [if_neg c16] at H
                  have c16b0 := decide_eq_false c16
                  clear c16
                  simp only [Option.some.injEq, Prod.mk.injEq] at H
                  obtain ⟨rfl, rfl⟩ := H
                  go_wp2
                  go_ret2
                  exact ⟨_, by first | rfl | (simp [errW_none, errW_some] <;> rfl) | (simp [*, errW_none, errW_some] <;> rfl), uR HO_6, uB HB⟩
          · rw [if_neg c13] at H
            exact absurd H (by simp)
        · rw [if_neg c12] at H
          exact absurd H (by simp)
def impl_areRests.f (l0 : List Int) : Option (Bool) := (impl_isTurn.f (l0.length : Int)).bind fun t592 => (if t592 = true then ((impl_areUpTo.f l0 100000000).bind fun t593 => (some t593)) else (some false))
set_option maxHeartbeats 8000000 in
set_option maxRecDepth 100000 in
theorem impl_areRests.calls (A0 : Option Addr) (c0 : Nat) (l0 : List Int) (r : Bool) (w : World) (hr0 : Kd.C (Kd.int .i64) w A0 l0.length l0) (hc0 : l0.length ≤ c0) (h : impl_areRests.f l0 = some r) :
    Calls Tryz.prog 218 #[.slice A0 l0.length c0] w fun e w' => e = .returned (.bool r) ∧ Below w.heap.size w w' := by
  have HR0 := Aside0.mk hr0
  have HC0 := Aside0.mk hc0
  clear hr0 hc0
  have HB := Aside0.mk (Below.refl w.heap.size w)
  have H : ((impl_isTurn.f (l0.length : Int)).bind fun t592 => (if t592 = true then ((impl_areUpTo.f l0 100000000).bind fun t593 => (some t593)) else (some false))) = some r := h
  clear h
  obtain ⟨t592, A2, H⟩ := bs H; (try dsimp only at H)
  by_cases c3 : t592 = true
  · subst c3
    rw [if_pos rfl] at H
    obtain ⟨t593, A4, H⟩ := bs H; (try dsimp only at H)
    obtain rfl := Option.some.inj H
    go_enter Tryz.func218, Tryz.ntmps218
    go_wp2_with (first | (refine gA (some 5) Tryz.func217 #[.int .i64 (l0.length : Int)] ?_; (with_reducible refine (impl_isTurn.calls (l0.length : Int) true _ A2.out).mono ?_); rintro e w' ⟨rfl, ⟨nd, rfl⟩⟩; refine ⟨_, rfl, ?_⟩) | (go_at_call 216; (with_reducible refine (impl_areUpTo.calls _ _ l0 100000000 t593 _ (uC HR0) HC0.out A4.out).mono ?_); rintro e w5 ⟨rfl, hb⟩; have n0_ := Aside0.mk (below_step (uB HB) hb); clear HB; have HB := n0_; clear n0_; (try clear hb)))
    go_ret
    exact ⟨by first | rfl | (simp [errW_none, errW_some] <;> rfl) | (simp [*, errW_none, errW_some] <;> rfl), uB HB⟩
  · replace c3 := Bool.eq_false_iff.mpr c3
    subst c3
    rw [if_neg (show ¬ (false = true) by decide)] at H
    obtain rfl := Option.some.inj H
    go_enter Tryz.func218, Tryz.ntmps218
    go_wp2_with (first | (refine gA (some 5) Tryz.func217 #[.int .i64 (l0.length : Int)] ?_; (with_reducible refine (impl_isTurn.calls (l0.length : Int) false _ A2.out).mono ?_); rintro e w' ⟨rfl, ⟨nd, rfl⟩⟩; refine ⟨_, rfl, ?_⟩))
    go_ret
    exact ⟨by first | rfl | (simp [errW_none, errW_some] <;> rfl) | (simp [*, errW_none, errW_some] <;> rfl), uB HB⟩
end Go.Proofs.YtkgngggppcmpfaaGreat.L
end
section
namespace Go.Proofs.YtkgngggppcmpfaaGreat.L
open Go.RowKit Go.Proofs.YtkgngggppcmpfaaGreatW.PrintWords Go.Proofs.YtkgngggppcmpfaaGreatW.PrintLast Go.Proofs.YtkgngggppcmpfaaGreatW.PrintMore
attribute [local go_sem] max2_int min2_int max_two min_two max_three min_three max_four min_four
set_option linter.unusedVariables false
set_option linter.unusedSimpArgs false
def impl_gcd.l0 : Nat → Int → Int → Option (Int)
  | 0, _, _ => none
  | k + 1, x0, x1 => if x1 = 0 then (some x0) else (impl_gcd.l0 k x1 (Int.tmod x0 x1))
def impl_gcd.f (k : Nat) (a0 : Int) (a1 : Int) : Option (Int) := impl_gcd.l0 k a0 a1
theorem impl_gcd.mono_l : ∀ k, (∀ y0 y1, LeO (impl_gcd.l0 k y0 y1) (impl_gcd.l0 (k + 1) y0 y1))
  | 0 => fun _ _ r h => by simp [impl_gcd.l0] at h
  | k + 1 => by
    have ih0 := impl_gcd.mono_l k
    · intro y0 y1
      unfold impl_gcd.l0
      repeat' first
      | (with_reducible exact ih0 _ _)
      | (with_reducible exact LeO.refl _)
      | (with_reducible exact LeO.none _)
      | (with_reducible refine LeO.ite ?_ ?_)
      | (with_reducible refine LeO.bind ?_ (fun _ => ?_))
      | exact ih0 _ _
      | exact LeO.none _
      | refine LeO.ite ?_ ?_
      | refine LeO.bind ?_ (fun _ => ?_)
theorem impl_gcd.mono : ∀ a0 a1 k, LeO (impl_gcd.f k a0 a1) (impl_gcd.f (k + 1) a0 a1) := by
  intro a0 a1 k
  have ih0 := impl_gcd.mono_l k
  unfold impl_gcd.f
  repeat' (with_reducible first | apply ih0 | exact LeO.refl _ | exact LeO.none _ | refine LeO.ite ?_ ?_ | refine LeO.bind ?_ (fun _ => ?_))
set_option maxHeartbeats 8000000 in
set_option maxRecDepth 100000 in
theorem impl_gcd.calls (k : Nat) (a0 : Int) (a1 : Int) (r : Int) (w : World) (h : impl_gcd.f k a0 a1 = some r) :
    Calls Tryz.prog 219 #[.int .i64 a0, .int .i64 a1] w fun e w' => e = .returned (.int .i64 r) ∧ Drawn0 w w' := by
  have H : (impl_gcd.l0 k a0 a1) = some r := h
  clear h
  have H' := Aside0.mk H
  clear H
  go_enter Tryz.func219, Tryz.ntmps219
  go_wp2
  repeat (go_quiet (fail); try go_wp2)
  go_loopg [0, 1] k (fun kq v0 v1 w' => ∃ (x0_1 : Int) (x1_1 : Int), v0 = .int .i64 x0_1 ∧ v1 = .int .i64 x1_1 ∧ Aside0 (impl_gcd.l0 kq x0_1 x1_1 = some r) ∧ Aside0 (kq ≤ k) ∧ Drawn0 w w')
  case atStart => exact ⟨(a0), (a1), (by first | rfl | (simp; done) | (simp [*]; done)), (by first | rfl | (simp; done) | (simp [*]; done)), H', ⟨Nat.le_refl _⟩, by repeat (first | exact Drawn0.refl _ | apply Drawn0.step)⟩
  case round =>
    clear H'
    skip
    obtain ⟨x0_1, x1_1, rfl, rfl, HA, HK1, ⟨m1, rfl⟩⟩ := hrel
    cases gk with
    | zero => exact absurd HA.out (by simp [impl_gcd.l0])
    | succ k1 =>
      have H := HA.out
      clear HA
      simp only [impl_gcd.l0] at H
      by_cases c3 : x1_1 = 0
      · rw [if_pos c3] at H
        have c3b0 : (x1_1 == 0) = true := beq_iff_eq.mpr c3
        have c3b1 : (x1_1 != 0) = false := bne_eq_false_iff_eq.mpr c3
        clear c3
        obtain rfl := Option.some.inj H
        go_wp2
        repeat (go_quiet (fail); try go_wp2)
        go_ret
        exact ⟨by first | rfl | (simp; done) | (simp [*]; done), by repeat (first | exact Drawn0.refl _ | apply Drawn0.step)⟩
      · rw [if_neg c3] at H
        have c3b0 : (x1_1 == 0) = false := beq_eq_false_iff_ne.mpr c3
        have c3b1 : (x1_1 != 0) = true := bne_iff_ne.mpr c3
        have H' := Aside0.mk H
        clear H
        go_wp2
        repeat (go_quiet (fail); try go_wp2)
        go_roundg k1
        case measure => have := HK1.out; omega
        case rel => exact ⟨(x1_1), (Int.tmod x0_1 x1_1), (by first | rfl | (simp; done) | (simp [*]; done)), (by first | rfl | (simp; done) | (simp [*]; done)), H', ⟨by have := HK1.out; omega⟩, by repeat (first | exact Drawn0.refl _ | apply Drawn0.step)⟩
open Go.Proofs.YtkgngggppcmpfaaGreat.X in
set_option maxHeartbeats 800000 in
set_option maxRecDepth 100000 in
theorem impl_sum.calls (A0 : Option Addr) (c0 : Nat) (l0 : List Int) (g : Nat) (lb : Array Value) (f : Int → Int) (w : World) (eg : ∀ args w, (callFunc g args).run Tryz.prog w = .ok (.enter g args) w)
    (hr0 : Kd.C (Kd.int .i64) w A0 l0.length l0) (hl : l0.length ≤ 9223372036854775806) (hp : ∀ x, x ∈ l0 → Fv Tryz.prog g lb #[.int .i64 x] (.int .i64 (f x)) w) :
    Calls Tryz.prog 220 #[.slice A0 l0.length c0, .func (.func g) #[] lb] w fun e w' => e = .returned (.int .i64 (sumF f l0)) ∧ Below w.heap.size w w' := by
  have HR0 := Aside0.mk hr0
  have HP := Aside0.mk hp
  clear hr0 hp
  go_enter Tryz.func220, Tryz.ntmps220
  go_wp2
  go_loopw [5, 10] (fun v5 v10 wr => ∃ (k : Nat) (n : Int), k ≤ l0.length ∧ v10 = .int .i64 k ∧ v5 = .int .i64 n ∧ Aside0 (sumF f l0 = sumFrom f (l0.drop k) n) ∧ Aside0 (Below w.heap.size w wr)) (fun v5 v10 _ => l0.length - (intOf v10).toNat)
  case atStart => exact ⟨0, 0, Nat.zero_le _, rfl, rfl, ⟨rfl⟩, ⟨Below.refl _ _⟩⟩
  case round =>
    obtain ⟨k, n, hk, rfl, rfl, HI, HB⟩ := hrel
    by_cases hlt : k < l0.length
    · have hdrop : l0.drop k = l0[k] :: l0.drop (k + 1) := (List.drop_eq_getElem_cons hlt)
      have hrd : rd l0 (k : Int) = l0[k] := by simp [rd, List.getD_eq_getElem?_getD, hlt]
      have hmem : l0[k] ∈ l0 := List.getElem_mem hlt
      have hfv := HP.out _ hmem
      rw [← hrd] at hfv
      have hI3 := Aside0.mk (show sumF f l0 = sumFrom f (l0.drop (k + 1)) (wrap64 (n + f (rd l0 (k : Int)))) by rw [hrd, HI.out, hdrop]; rfl)
      have HF := Aside0.mk hfv
      clear hfv hdrop hrd HI hmem
      have p1 : 0 ≤ ((k : Nat) : Int) := by omega
      have q1 : ((k : Nat) : Int) < (l0.length : Int) := by omega
      obtain ⟨ad, e1, hx⟩ := Kd.at_int (Kd.C_below HR0.out HB.out) k p1 q1
      rw [Int.toNat_natCast] at hx
      cases e1
      go_wp2_with (go_at_fn g; (with_reducible refine (Fv.calls HF.out HB.out).mono ?_); rintro e w2 ⟨rfl, hb⟩)
      go_roundw
      case rel => exact ⟨k + 1, wrap64 (n + f (rd l0 (k : Int))), by omega, by go_num, by go_num, ⟨hI3.out⟩, ⟨below_to HB.out hb⟩⟩
      case measure => simp [intOf]; omega
    · go_wp2
      go_ret
      exact ⟨by rw [HI.out, List.drop_of_length_le (by omega)]; rfl, HB.out⟩
end Go.Proofs.YtkgngggppcmpfaaGreat.L
end
