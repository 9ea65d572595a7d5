/- Laws about the given program: the law FnSievesOfRows answers true for every input that its row lets in; no condition is added to the given statement. Contracts of the Go functions that it reaches, and the plain proof over lists. -/
import Derived.Laws.BitsLemmas
import Derived.WalkKit
import Derived.Test.YtkgngggppcmpfaaGreatWFnSievesOfRows0
import Derived.Test.YtkgngggppcmpfaaGreatKFnSievesOfRows0
import Derived.Test.YtkgngggppcmpfaaGreatKFnSievesOfRows1
import Derived.Test.YtkgngggppcmpfaaGreatKFnSievesOfRows2
import Derived.Test.YtkgngggppcmpfaaGreatKFnSievesOfRows3
import Derived.Test.YtkgngggppcmpfaaGreatKFnSievesOfRows4
import Derived.Test.YtkgngggppcmpfaaGreatKFnSievesOfRows5
import Derived.Test.YtkgngggppcmpfaaGreatKFnSievesOfRows6
import Derived.Test.YtkgngggppcmpfaaGreatKFnSievesOfRows7
import Derived.Test.YtkgngggppcmpfaaGreatKFnSievesOfRows8
section
namespace Go.Proofs.YtkgngggppcmpfaaGreat.L
open Go.RowKit Go.Proofs.YtkgngggppcmpfaaGreatW.PrintWords Go.Proofs.YtkgngggppcmpfaaGreatW.PrintLast Go.Proofs.YtkgngggppcmpfaaGreatW.PrintMore Go.Proofs.YtkgngggppcmpfaaGreat.X
attribute [local go_sem] max2_int min2_int max_two min_two max_three min_three max_four min_four
set_option linter.unusedVariables false
set_option linter.unusedSimpArgs false
mutual
def laws_FnSievesOfRows.j0 : Nat → List Int → Int → Int → List Int → Bool → List Int → Bool → Option (Bool)
  | 0, _, _, _, _, _, _, _ => none
  | k + 1, x1, x5, x6, x7, x10, x11, x109 => if x109 = true then (none) else ((spec_DrawRowFixed.f x1).bind fun bt741 => ((impl_RowFixed.f k bt741.1 bt741.2.1 bt741.2.2).bind fun bt744 => ((spec_RowFixed.f k bt741.1 bt741.2.1 bt741.2.2).bind fun bt746 => (if (bt744.2 != bt746.2) = true then (laws_FnSievesOfRows.j1 k x1 x5 x6 x7 x10 x11 bt741.1 bt741.2.1 bt741.2.2 bt744.1 bt744.2 true) else (laws_FnSievesOfRows.j1 k x1 x5 x6 x7 x10 x11 bt741.1 bt741.2.1 bt741.2.2 bt744.1 bt744.2 (bt744.1 != bt746.1))))))
def laws_FnSievesOfRows.j1 : Nat → List Int → Int → Int → List Int → Bool → List Int → Int → Int → Int → Int → Bool → Bool → Option (Bool)
  | 0, _, _, _, _, _, _, _, _, _, _, _, _ => none
  | k + 1, x1, x5, x6, x7, x10, x11, x15, x16, x17, x18, x19, x137 => if x137 = true then (none) else (if x19 = true then ((impl_GaussOf.f k x15 x16).bind fun bt748 => ((impl_RemaindersOf.f k bt748.1 (wrap64 (x15 + x16))).bind fun bt752 => ((impl_ValueByRemainders.f k bt752.1 x17).bind fun bt756 => (if bt748.2 = true then (if bt752.2 = true then (if bt756.2 = true then (if bt756.1 = x18 then (laws_FnSievesOfRows.j2 k x1 x5 x6 x7 x10 x11) else (none)) else (none)) else (none)) else (none))))) else (laws_FnSievesOfRows.j2 k x1 x5 x6 x7 x10 x11))
def laws_FnSievesOfRows.j2 : Nat → List Int → Int → Int → List Int → Bool → List Int → Option (Bool)
  | 0, _, _, _, _, _, _ => none
  | k + 1, x1, x5, x6, x7, x10, x11 => (spec_DrawRemaindersOf.f k x1).bind fun bt758 => ((impl_RemaindersOf.f k bt758.1 bt758.2).bind fun bt762 => ((spec_RemaindersOf.f k bt758.1 bt758.2).bind fun bt766 => ((spec_DrawValueByRemainders.f k x1).bind fun bt770 => ((impl_ValueByRemainders.f k bt770.1 bt770.2).bind fun bt774 => ((spec_ValueByRemainders.f k bt770.1 bt770.2).bind fun bt776 => (if (bt762.2 != bt766.2) = true then (laws_FnSievesOfRows.j3 k x5 x6 x7 x10 x11 true) else ((laws_oSame.f k bt762.1 bt766.1).bind fun t778 => (if t778 = true then (if (bt774.2 != bt776.2) = true then (laws_FnSievesOfRows.j3 k x5 x6 x7 x10 x11 true) else (if bt774.1 = bt776.1 then (if bt762.2 = true then ((laws_oSum.f k bt762.1).bind fun t779 => ((laws_oSum.f k bt758.1).bind fun t780 => (laws_FnSievesOfRows.j3 k x5 x6 x7 x10 x11 (t779 != t780)))) else (laws_FnSievesOfRows.j3 k x5 x6 x7 x10 x11 false)) else (laws_FnSievesOfRows.j3 k x5 x6 x7 x10 x11 true))) else (laws_FnSievesOfRows.j3 k x5 x6 x7 x10 x11 true)))))))))
def laws_FnSievesOfRows.j3 : Nat → Int → Int → List Int → Bool → List Int → Bool → Option (Bool)
  | 0, _, _, _, _, _, _ => none
  | k + 1, x5, x6, x7, x10, x11, x236 => if x236 = true then (none) else (if x10 = true then ((impl_Rectangle.f k x5 x6).bind fun bt781 => ((impl_CountIdeals.f k bt781.1).bind fun bt786 => ((impl_RemaindersOf.f k x7 (wrap64 (x5 + x6))).bind fun bt788 => ((impl_IsSieved.f bt788.1 x11).bind fun bt792 => ((impl_BoxBySum.f k x5 x6 1).bind fun bt794 => (laws_FnSievesOfRows.l0 k x5 x6 x7 bt781.2 bt786.1 bt786.2 bt788.2 bt792.1 bt792.2 bt794.1 bt794.2 0 x11 (x11.length : Int) 0)))))) else (some true))
def laws_FnSievesOfRows.l0 : Nat → Int → Int → List Int → Bool → Int → Bool → Bool → Bool → Bool → List Int → Bool → Int → List Int → Int → Int → Option (Bool)
  | 0, _, _, _, _, _, _, _, _, _, _, _, _, _, _, _ => none
  | k + 1, x5, x6, x7, x41, x42, x43, x45, x46, x47, x48, x49, x50, x270, x271, x272 => if x272 < x271 then (if 0 ≤ x272 then (if x272 < (x270.length : Int) then (if (rd x270 x272) = 0 then (none) else (if (Int.tmod (wrap64 (x5 + x6)) (rd x270 x272)) = 0 then (laws_FnSievesOfRows.l0 k x5 x6 x7 x41 x42 x43 x45 x46 x47 x48 x49 (wrap64 (x50 + (wrap64 (Int.tdiv (wrap64 (x5 + x6)) (rd x270 x272))))) x270 x271 (wrap64 (x272 + 1))) else (none))) else (none)) else (none)) else (if x41 = true then (if x43 = true then (if x45 = true then (if x47 = true then (if x49 = true then (if x46 = true then (if x50 = x42 then ((laws_oSum.f k x7).bind fun t799 => (if t799 = x42 then ((laws_oSame.f k x48 x7).bind fun t800 => (some t800)) else (none))) else (none)) else (none)) else (none)) else (none)) else (none)) else (none)) else (none))
end
def laws_FnSievesOfRows.f (k : Nat) (l0 : List Int) (l1 : List Int) : Option (Bool) := (laws_big.f l0 l1).bind fun t720 => (if t720 = true then (some true) else ((spec_DrawGaussOf.f l0).bind fun bt721 => ((impl_GaussOf.f k bt721.1 bt721.2).bind fun bt723 => ((spec_GaussOf.f k bt721.1 bt721.2).bind fun bt727 => ((impl_RowStabilizers.f k bt721.1 bt721.2).bind fun bt731 => ((spec_RowStabilizers.f k bt721.1 bt721.2).bind fun bt735 => (if (bt723.2 != bt727.2) = true then (laws_FnSievesOfRows.j0 k l1 bt721.1 bt721.2 bt723.1 bt727.2 bt731.1 true) else ((laws_oSame.f k bt723.1 bt727.1).bind fun t739 => (if t739 = true then (if (bt731.2 != bt735.2) = true then (laws_FnSievesOfRows.j0 k l1 bt721.1 bt721.2 bt723.1 bt727.2 bt731.1 true) else ((laws_oSame.f k bt731.1 bt735.1).bind fun t740 => (if t740 = true then (laws_FnSievesOfRows.j0 k l1 bt721.1 bt721.2 bt723.1 bt727.2 bt731.1 (bt731.2 != bt723.2)) else (laws_FnSievesOfRows.j0 k l1 bt721.1 bt721.2 bt723.1 bt727.2 bt731.1 true)))) else (laws_FnSievesOfRows.j0 k l1 bt721.1 bt721.2 bt723.1 bt727.2 bt731.1 true))))))))))
theorem laws_FnSievesOfRows.mono_l : ∀ k, (∀ y0 y1 y2 y3 y4 y5 y6, LeO (laws_FnSievesOfRows.j0 k y0 y1 y2 y3 y4 y5 y6) (laws_FnSievesOfRows.j0 (k + 1) y0 y1 y2 y3 y4 y5 y6)) ∧ (∀ y0 y1 y2 y3 y4 y5 y6 y7 y8 y9 y10 y11, LeO (laws_FnSievesOfRows.j1 k y0 y1 y2 y3 y4 y5 y6 y7 y8 y9 y10 y11) (laws_FnSievesOfRows.j1 (k + 1) y0 y1 y2 y3 y4 y5 y6 y7 y8 y9 y10 y11)) ∧ (∀ y0 y1 y2 y3 y4 y5, LeO (laws_FnSievesOfRows.j2 k y0 y1 y2 y3 y4 y5) (laws_FnSievesOfRows.j2 (k + 1) y0 y1 y2 y3 y4 y5)) ∧ (∀ y0 y1 y2 y3 y4 y5, LeO (laws_FnSievesOfRows.j3 k y0 y1 y2 y3 y4 y5) (laws_FnSievesOfRows.j3 (k + 1) y0 y1 y2 y3 y4 y5)) ∧ (∀ y0 y1 y2 y3 y4 y5 y6 y7 y8 y9 y10 y11 y12 y13 y14, LeO (laws_FnSievesOfRows.l0 k y0 y1 y2 y3 y4 y5 y6 y7 y8 y9 y10 y11 y12 y13 y14) (laws_FnSievesOfRows.l0 (k + 1) y0 y1 y2 y3 y4 y5 y6 y7 y8 y9 y10 y11 y12 y13 y14))
  | 0 => ⟨fun _ _ _ _ _ _ _ r h => by simp [laws_FnSievesOfRows.j0] at h, fun _ _ _ _ _ _ _ _ _ _ _ _ r h => by simp [laws_FnSievesOfRows.j1] at h, fun _ _ _ _ _ _ r h => by simp [laws_FnSievesOfRows.j2] at h, fun _ _ _ _ _ _ r h => by simp [laws_FnSievesOfRows.j3] at h, fun _ _ _ _ _ _ _ _ _ _ _ _ _ _ _ r h => by simp [laws_FnSievesOfRows.l0] at h⟩
  | k + 1 => by
    obtain ⟨ih0, ih1, ih2, ih3, ih4⟩ := laws_FnSievesOfRows.mono_l k
    refine ⟨?_, ?_, ?_, ?_, ?_⟩
    all_goals
      intros
      first | unfold laws_FnSievesOfRows.j0 | unfold laws_FnSievesOfRows.j1 | unfold laws_FnSievesOfRows.j2 | unfold laws_FnSievesOfRows.j3 | unfold laws_FnSievesOfRows.l0
      repeat' (with_reducible first | apply ih0 | apply ih1 | apply ih2 | apply ih3 | apply ih4 | apply impl_BoxBySum.mono | apply impl_CountIdeals.mono | apply impl_GaussOf.mono | apply impl_Rectangle.mono | apply impl_RemaindersOf.mono | apply impl_RowFixed.mono | apply impl_RowStabilizers.mono | apply impl_ValueByRemainders.mono | apply laws_oSame.mono | apply laws_oSum.mono | apply spec_DrawRemaindersOf.mono | apply spec_DrawValueByRemainders.mono | apply spec_GaussOf.mono | apply spec_RemaindersOf.mono | apply spec_RowFixed.mono | apply spec_RowStabilizers.mono | apply spec_ValueByRemainders.mono | exact LeO.refl _ | exact LeO.none _ | refine LeO.ite ?_ ?_ | refine LeO.bind ?_ (fun _ => ?_))
theorem laws_FnSievesOfRows.mono : ∀ a0 a1 k, LeO (laws_FnSievesOfRows.f k a0 a1) (laws_FnSievesOfRows.f (k + 1) a0 a1) := by
  intro a0 a1 k
  obtain ⟨ih0, ih1, ih2, ih3, ih4⟩ := laws_FnSievesOfRows.mono_l k
  unfold laws_FnSievesOfRows.f
  repeat' (with_reducible first | apply ih0 | apply ih1 | apply ih2 | apply ih3 | apply ih4 | apply impl_BoxBySum.mono | apply impl_CountIdeals.mono | apply impl_GaussOf.mono | apply impl_Rectangle.mono | apply impl_RemaindersOf.mono | apply impl_RowFixed.mono | apply impl_RowStabilizers.mono | apply impl_ValueByRemainders.mono | apply laws_oSame.mono | apply laws_oSum.mono | apply spec_DrawRemaindersOf.mono | apply spec_DrawValueByRemainders.mono | apply spec_GaussOf.mono | apply spec_RemaindersOf.mono | apply spec_RowFixed.mono | apply spec_RowStabilizers.mono | apply spec_ValueByRemainders.mono | exact LeO.refl _ | exact LeO.none _ | refine LeO.ite ?_ ?_ | refine LeO.bind ?_ (fun _ => ?_))
set_option maxHeartbeats 8000000 in
set_option maxRecDepth 100000 in
theorem laws_FnSievesOfRows.calls (k : Nat) (A0 : Option Addr) (c0 : Nat) (l0 : List Int) (A1 : Option Addr) (c1 : Nat) (l1 : List Int) (r : Bool) (w : World) (hr0 : Kd.C (Kd.int .u8) w A0 l0.length l0) (hc0 : l0.length ≤ c0) (hr1 : Kd.C (Kd.int .u8) w A1 l1.length l1) (hc1 : l1.length ≤ c1) (h : laws_FnSievesOfRows.f k l0 l1 = some r) :
    Calls Tryz.prog 5 #[.slice A0 l0.length c0, .slice A1 l1.length c1] w fun e w' => e = .returned (.bool r) ∧ Below w.heap.size w w' := by
  have hu26 := Tryz.underlying26
  have HR0 := Aside0.mk hr0
  have HC0 := Aside0.mk hc0
  clear hr0 hc0
  have HR1 := Aside0.mk hr1
  have HC1 := Aside0.mk hc1
  clear hr1 hc1
  have HB := Aside0.mk (Below.refl w.heap.size w)
  have H : ((laws_big.f l0 l1).bind fun t720 => (if t720 = true then (some true) else ((spec_DrawGaussOf.f l0).bind fun bt721 => ((impl_GaussOf.f k bt721.1 bt721.2).bind fun bt723 => ((spec_GaussOf.f k bt721.1 bt721.2).bind fun bt727 => ((impl_RowStabilizers.f k bt721.1 bt721.2).bind fun bt731 => ((spec_RowStabilizers.f k bt721.1 bt721.2).bind fun bt735 => (if (bt723.2 != bt727.2) = true then (laws_FnSievesOfRows.j0 k l1 bt721.1 bt721.2 bt723.1 bt727.2 bt731.1 true) else ((laws_oSame.f k bt723.1 bt727.1).bind fun t739 => (if t739 = true then (if (bt731.2 != bt735.2) = true then (laws_FnSievesOfRows.j0 k l1 bt721.1 bt721.2 bt723.1 bt727.2 bt731.1 true) else ((laws_oSame.f k bt731.1 bt735.1).bind fun t740 => (if t740 = true then (laws_FnSievesOfRows.j0 k l1 bt721.1 bt721.2 bt723.1 bt727.2 bt731.1 (bt731.2 != bt723.2)) else (laws_FnSievesOfRows.j0 k l1 bt721.1 bt721.2 bt723.1 bt727.2 bt731.1 true)))) else (laws_FnSievesOfRows.j0 k l1 bt721.1 bt721.2 bt723.1 bt727.2 bt731.1 true))))))))))) = some r := h
  clear h
  obtain ⟨t720, A3, H⟩ := bs H; (try dsimp only at H)
  by_cases c4 : t720 = true
  · subst c4
    rw [if_pos rfl] at H
    obtain rfl := Option.some.inj H
    go_enter Tryz.func5, Tryz.ntmps5
    go_wp2_with ((with_reducible refine gt ?_); first | (refine gA (some 55) Tryz.func10 #[.slice A0 l0.length c0, .slice A1 l1.length c1] ?_; (with_reducible refine (laws_big.calls _ _ l0 _ _ l1 true _ (uC HR0) HC0.out (uC HR1) HC1.out A3.out).mono ?_); rintro e w' ⟨rfl, ⟨nd, rfl⟩⟩; refine ⟨_, rfl, ?_⟩))
    go_ret
    exact ⟨by first | rfl | (simp [errW_none, errW_some] <;> rfl) | (simp [*, errW_none, errW_some] <;> rfl), uB HB⟩
  · replace c4 := Bool.eq_false_iff.mpr c4
    subst c4
    rw [if_neg (show ¬ (false = true) by decide)] at H
    obtain ⟨⟨t721, t722⟩, A5, H⟩ := bs H; (try dsimp only at H)
    obtain ⟨⟨t723, t724⟩, A6, H⟩ := bs H; (try dsimp only at H)
    obtain ⟨⟨t727, t728⟩, A7, H⟩ := bs H; (try dsimp only at H)
    obtain ⟨⟨t731, t732⟩, A8, H⟩ := bs H; (try dsimp only at H)
    obtain ⟨⟨t735, t736⟩, A9, H⟩ := bs H; (try dsimp only at H)
    have HC10 := Aside0.mk H
    clear H
    go_enter Tryz.func5, Tryz.ntmps5
    as_aux_lemma =>
      go_upto_region 8 with ((with_reducible refine gt ?_); first | (refine gA (some 55) Tryz.func10 #[.slice A0 l0.length c0, .slice A1 l1.length c1] ?_; (with_reducible refine (laws_big.calls _ _ l0 _ _ l1 false _ (uC HR0) HC0.out (uC HR1) HC1.out A3.out).mono ?_); rintro e w' ⟨rfl, ⟨nd, rfl⟩⟩; refine ⟨_, rfl, ?_⟩) | (refine gA (some 58) Tryz.func59 #[.slice A0 l0.length c0] ?_; (with_reducible refine (spec_DrawGaussOf.calls _ _ l0 t721 t722 _ (uC HR0) HC0.out A5.out).mono ?_); rintro e w11 ⟨rfl, hb⟩; refine ⟨_, rfl, ?_⟩; have n0_ := Aside0.mk (below_step (uB HB) hb); clear HB; have HB := n0_; clear n0_; (try clear hb)) | (refine gA (some 64) Tryz.func60 #[.int .i64 t721, .int .i64 t722] ?_; (with_reducible refine (impl_GaussOf.calls k t721 t722 t723 t724 _ A6.out).mono ?_); rintro e w12 ⟨v725, rfl, ho0, hb⟩; refine ⟨_, rfl, ?_⟩; have n0_ := Aside0.mk (Kd.R_lower ho0 (below_size (uB HB))); have n1_ := Aside0.mk (below_step (uB HB) hb); clear HB; have HO726 := n0_; have HB := n1_; clear n0_ n1_; (try clear hb ho0)) | (refine gA (some 70) Tryz.func61 #[.int .i64 t721, .int .i64 t722] ?_; (with_reducible refine (spec_GaussOf.calls k t721 t722 t727 t728 _ A7.out).mono ?_); rintro e w13 ⟨v729, rfl, ho0, hb⟩; refine ⟨_, rfl, ?_⟩; have n0_ := Aside0.mk (Kd.R_elder' (uR HO726) (Kd.R_base ho0) hb); have n1_ := Aside0.mk (Kd.R_lower (Kd.R_new' ho0 (Kd.R_lt (uR HO726))) (below_size (uB HB))); have n2_ := Aside0.mk (below_step (uB HB) hb); clear HO726; clear HB; have HO726 := n0_; have HO730 := n1_; have HB := n2_; clear n0_ n1_ n2_; (try clear hb ho0)) | (refine gA (some 76) Tryz.func62 #[.int .i64 t721, .int .i64 t722] ?_; (with_reducible refine (impl_RowStabilizers.calls k t721 t722 t731 t732 _ A8.out).mono ?_); rintro e w14 ⟨v733, rfl, ho0, hb⟩; refine ⟨_, rfl, ?_⟩; have n0_ := Aside0.mk (Kd.R_elder' (uR HO726) (Kd.R_base ho0) hb); have n1_ := Aside0.mk (Kd.R_elder' (uR HO730) (Kd.R_base ho0) hb); have n2_ := Aside0.mk (Kd.R_lower (Kd.R_new' (Kd.R_new' ho0 (Kd.R_lt (uR HO726))) (Kd.R_lt (uR HO730))) (below_size (uB HB))); have n3_ := Aside0.mk (below_step (uB HB) hb); clear HO726; clear HO730; clear HB; have HO726 := n0_; have HO730 := n1_; have HO734 := n2_; have HB := n3_; clear n0_ n1_ n2_ n3_; (try clear hb ho0)) | (refine gA (some 82) Tryz.func63 #[.int .i64 t721, .int .i64 t722] ?_; (with_reducible refine (spec_RowStabilizers.calls k t721 t722 t735 t736 _ A9.out).mono ?_); rintro e w15 ⟨v737, rfl, ho0, hb⟩; refine ⟨_, rfl, ?_⟩; have n0_ := Aside0.mk (Kd.R_elder' (uR HO726) (Kd.R_base ho0) hb); have n1_ := Aside0.mk (Kd.R_elder' (uR HO730) (Kd.R_base ho0) hb); have n2_ := Aside0.mk (Kd.R_elder' (uR HO734) (Kd.R_base ho0) hb); have n3_ := Aside0.mk (Kd.R_lower (Kd.R_new' (Kd.R_new' (Kd.R_new' ho0 (Kd.R_lt (uR HO726))) (Kd.R_lt (uR HO730))) (Kd.R_lt (uR HO734))) (below_size (uB HB))); have n4_ := Aside0.mk (below_step (uB HB) hb); clear HO726; clear HO730; clear HO734; clear HB; have HO726 := n0_; have HO730 := n1_; have HO734 := n2_; have HO738 := n3_; have HB := n4_; clear n0_ n1_ n2_ n3_ n4_; (try clear hb ho0)))
      (try simp only [Act.put, List.setIfInBounds_toArray, List.set_cons_zero, List.set_cons_succ])
      as_aux_lemma =>
        go_cut [109] (fun v109 wc => ∃ (kq : Nat) (x109_9 : Bool), v109 = .bool x109_9 ∧ Aside0 (laws_FnSievesOfRows.j0 kq l1 t721 t722 t723 t728 t731 x109_9 = some r) ∧ Aside0 (kq ≤ k) ∧ Aside0 (Kd.R (Kd.int .i64) 3 wc w.heap.size (fun k_ => some k_ ≠ (v733 : Value).ownBlock) v725 t723) ∧ Aside0 (Kd.R (Kd.int .i64) 3 wc w.heap.size (fun k_ => some k_ ≠ (v725 : Value).ownBlock) v733 t731) ∧ Aside0 (Below w.heap.size w wc))
        case first => as_aux_lemma =>
          have H := HC10.out
          clear HC10
          by_cases c16 : (t724 != t728) = true
          · rw [if_pos c16] at H
            have c16b0 : (t724 != t728) = true := c16
            (try (have c16b1 : decide (t724 = t728) = false := by simpa using c16))
            (try (have c16b2 : (t724 == t728) = false := by simpa using c16))
            (try (have c16b3 : ¬ (t724 = t728) := by simpa using c16))
            clear c16
            (first | rw [c16b0] | (simp only [i64_w, i32_w]; rw [c16b0]) | skip)
            have H' := Aside0.mk H
            clear H
            go_wp2
            go_meet
            case rel => exact ⟨_, (true), (by first | rfl | (simp; done) | (simp [*]; done)), H', ⟨by first | omega | exact Nat.le_refl _⟩, ⟨Kd.R_mono (uR HO726) (fun _ hk => hk.1.2)⟩, ⟨Kd.R_mono (uR HO734) (fun _ hk => hk.1.1.2)⟩, ⟨uB HB⟩⟩
          · rw [if_neg c16] at H
            have c16b0 : (t724 != t728) = false := by simpa using c16
            (try (have c16b1 : decide (t724 = t728) = true := by simpa using c16))
            (try (have c16b2 : (t724 == t728) = true := by simpa using c16))
            clear c16
            (first | rw [c16b0] | (simp only [i64_w, i32_w]; rw [c16b0]) | skip)
            obtain ⟨t739, A17, H⟩ := bs H; (try dsimp only at H)
            by_cases c18 : t739 = true
            · subst c18
              rw [if_pos rfl] at H
              by_cases c19 : (t732 != t736) = true
              · as_aux_lemma =>
                rw [if_pos c19] at H
                have c19b0 : (t732 != t736) = true := c19
                (try (have c19b1 : decide (t732 = t736) = false := by simpa using c19))
                (try (have c19b2 : (t732 == t736) = false := by simpa using c19))
                (try (have c19b3 : ¬ (t732 = t736) := by simpa using c19))
                clear c19
                have H' := Aside0.mk H
                clear H
                obtain ⟨Ao20, co20, eo20⟩ := Kd.R_slice HO726.out
                subst eo20
                obtain ⟨Ao21, co21, eo21⟩ := Kd.R_slice HO730.out
                subst eo21
                go_wp2_with (first | (go_at_call 64; (with_reducible refine (laws_oSame.calls k _ _ t723 _ _ t727 true _ (uE HO726) ?side2 (uE HO730) ?side4 A17.out).mono ?_); (case side2 => exact (Kd.R_reads' HO726.out).2.1); (case side4 => exact (Kd.R_reads' HO730.out).2.1); rintro e w' ⟨rfl, ⟨nd, rfl⟩⟩))
                go_meet
                case rel => exact ⟨_, (true), (by first | rfl | (simp; done) | (simp [*]; done)), H', ⟨by first | omega | exact Nat.le_refl _⟩, ⟨Kd.R_mono (uR HO726) (fun _ hk => hk.1.2)⟩, ⟨Kd.R_mono (uR HO734) (fun _ hk => hk.1.1.2)⟩, ⟨uB HB⟩⟩
              · rw [if_neg c19] at H
                have c19b0 : (t732 != t736) = false := by simpa using c19
                (try (have c19b1 : decide (t732 = t736) = true := by simpa using c19))
                (try (have c19b2 : (t732 == t736) = true := by simpa using c19))
                clear c19
                obtain ⟨t740, A22, H⟩ := bs H; (try dsimp only at H)
                by_cases c23 : t740 = true
                · subst c23
                  rw [if_pos rfl] at H
                  have H' := Aside0.mk H
                  clear H
                  obtain ⟨Ao24, co24, eo24⟩ := Kd.R_slice HO726.out
                  subst eo24
                  obtain ⟨Ao25, co25, eo25⟩ := Kd.R_slice HO730.out
                  subst eo25
                  as_aux_lemma =>
                    go_wp2_with (first | (go_at_call 64; (with_reducible refine (laws_oSame.calls k _ _ t723 _ _ t727 true _ (uE HO726) ?side2 (uE HO730) ?side4 A17.out).mono ?_); (case side2 => exact (Kd.R_reads' HO726.out).2.1); (case side4 => exact (Kd.R_reads' HO730.out).2.1); rintro e w' ⟨rfl, ⟨nd, rfl⟩⟩; obtain ⟨Ao26, co26, eo26⟩ := Kd.R_slice HO734.out; subst eo26; obtain ⟨Ao27, co27, eo27⟩ := Kd.R_slice HO738.out; subst eo27) | (go_at_call 64; (with_reducible refine (laws_oSame.calls k _ _ t731 _ _ t735 true _ (uE HO734) ?side2 (uE HO738) ?side4 A22.out).mono ?_); (case side2 => exact (Kd.R_reads' HO734.out).2.1); (case side4 => exact (Kd.R_reads' HO738.out).2.1); rintro e w' ⟨rfl, ⟨nd, rfl⟩⟩))
                    go_meet
                    case rel => exact ⟨_, ((t732 != t724)), (by first | rfl | (simp; done) | (simp [*]; done)), H', ⟨by first | omega | exact Nat.le_refl _⟩, ⟨Kd.R_mono (uR HO726) (fun _ hk => hk.1.2)⟩, ⟨Kd.R_mono (uR HO734) (fun _ hk => hk.1.1.2)⟩, ⟨uB HB⟩⟩
                · replace c23 := Bool.eq_false_iff.mpr c23
                  subst c23
                  rw [if_neg (show ¬ (false = true) by decide)] at H
                  have H' := Aside0.mk H
                  clear H
                  obtain ⟨Ao28, co28, eo28⟩ := Kd.R_slice HO726.out
                  subst eo28
                  obtain ⟨Ao29, co29, eo29⟩ := Kd.R_slice HO730.out
                  subst eo29
                  as_aux_lemma =>
                    go_wp2_with (first | (go_at_call 64; (with_reducible refine (laws_oSame.calls k _ _ t723 _ _ t727 true _ (uE HO726) ?side2 (uE HO730) ?side4 A17.out).mono ?_); (case side2 => exact (Kd.R_reads' HO726.out).2.1); (case side4 => exact (Kd.R_reads' HO730.out).2.1); rintro e w' ⟨rfl, ⟨nd, rfl⟩⟩; obtain ⟨Ao30, co30, eo30⟩ := Kd.R_slice HO734.out; subst eo30; obtain ⟨Ao31, co31, eo31⟩ := Kd.R_slice HO738.out; subst eo31) | (go_at_call 64; (with_reducible refine (laws_oSame.calls k _ _ t731 _ _ t735 false _ (uE HO734) ?side2 (uE HO738) ?side4 A22.out).mono ?_); (case side2 => exact (Kd.R_reads' HO734.out).2.1); (case side4 => exact (Kd.R_reads' HO738.out).2.1); rintro e w' ⟨rfl, ⟨nd, rfl⟩⟩))
                    go_meet
                    case rel => exact ⟨_, (true), (by first | rfl | (simp; done) | (simp [*]; done)), H', ⟨by first | omega | exact Nat.le_refl _⟩, ⟨Kd.R_mono (uR HO726) (fun _ hk => hk.1.2)⟩, ⟨Kd.R_mono (uR HO734) (fun _ hk => hk.1.1.2)⟩, ⟨uB HB⟩⟩
            · replace c18 := Bool.eq_false_iff.mpr c18
              subst c18
              rw [if_neg (show ¬ (false = true) by decide)] at H
              have H' := Aside0.mk H
              clear H
              obtain ⟨Ao32, co32, eo32⟩ := Kd.R_slice HO726.out
              subst eo32
              obtain ⟨Ao33, co33, eo33⟩ := Kd.R_slice HO730.out
              subst eo33
              go_wp2_with (first | (go_at_call 64; (with_reducible refine (laws_oSame.calls k _ _ t723 _ _ t727 false _ (uE HO726) ?side2 (uE HO730) ?side4 A17.out).mono ?_); (case side2 => exact (Kd.R_reads' HO726.out).2.1); (case side4 => exact (Kd.R_reads' HO730.out).2.1); rintro e w' ⟨rfl, ⟨nd, rfl⟩⟩))
              go_meet
              case rel => exact ⟨_, (true), (by first | rfl | (simp; done) | (simp [*]; done)), H', ⟨by first | omega | exact Nat.le_refl _⟩, ⟨Kd.R_mono (uR HO726) (fun _ hk => hk.1.2)⟩, ⟨Kd.R_mono (uR HO734) (fun _ hk => hk.1.1.2)⟩, ⟨uB HB⟩⟩
        case rest => as_aux_lemma =>
          clear HC10
          skip
          obtain ⟨kq, x109_9, rfl, HA, HJ9, HO_7, HO_11, HB⟩ := hcut
          cases kq with
          | zero => exact absurd HA.out (by simp [laws_FnSievesOfRows.j0])
          | succ kj9 =>
            have H := HA.out
            clear HA
            simp only [laws_FnSievesOfRows.j0] at H
            by_cases c34 : x109_9 = true
            · subst c34
              rw [if_pos rfl] at H
              exact absurd H (by simp)
            · replace c34 := Bool.eq_false_iff.mpr c34
              subst c34
              rw [if_neg (show ¬ (false = true) by decide)] at H
              obtain ⟨⟨t741, t742, t743⟩, A35, H⟩ := bs H; (try dsimp only at H)
              obtain ⟨⟨t744, t745⟩, A36, H⟩ := bs H; (try dsimp only at H)
              obtain ⟨⟨t746, t747⟩, A37, H⟩ := bs H; (try dsimp only at H)
              have HC38 := Aside0.mk H
              clear H
              as_aux_lemma =>
                go_upto_region 13 with ((with_reducible refine gt ?_); first | (refine gA (some 112) Tryz.func65 #[.slice A1 l1.length c1] ?_; (with_reducible refine (spec_DrawRowFixed.calls _ _ l1 t741 t742 t743 _ (uD HR1 HB) HC1.out A35.out).mono ?_); rintro e w39 ⟨rfl, hb⟩; refine ⟨_, rfl, ?_⟩; have n0_ := Aside0.mk (Kd.R_below (uR HO_7) hb); have n1_ := Aside0.mk (Kd.R_below (uR HO_11) hb); have n2_ := Aside0.mk (below_step (uB HB) hb); clear HO_7; clear HO_11; clear HB; have HO_7 := n0_; have HO_11 := n1_; have HB := n2_; clear n0_ n1_ n2_; (try clear hb)) | (refine gA (some 120) Tryz.func66 #[.int .i64 t741, .int .i64 t742, .int .i64 t743] ?_; (with_reducible refine (impl_RowFixed.calls kj9 t741 t742 t743 t744 t745 _ A36.out).mono ?_); rintro e w40 ⟨rfl, hb⟩; refine ⟨_, rfl, ?_⟩; have n0_ := Aside0.mk (Kd.R_below (uR HO_7) hb); have n1_ := Aside0.mk (Kd.R_below (uR HO_11) hb); have n2_ := Aside0.mk (below_step (uB HB) hb); clear HO_7; clear HO_11; clear HB; have HO_7 := n0_; have HO_11 := n1_; have HB := n2_; clear n0_ n1_ n2_; (try clear hb)) | (refine gA (some 127) Tryz.func67 #[.int .i64 t741, .int .i64 t742, .int .i64 t743] ?_; (with_reducible refine (spec_RowFixed.calls kj9 t741 t742 t743 t746 t747 _ A37.out).mono ?_); rintro e w41 ⟨rfl, hb⟩; refine ⟨_, rfl, ?_⟩; have n0_ := Aside0.mk (Kd.R_below (uR HO_7) hb); have n1_ := Aside0.mk (Kd.R_below (uR HO_11) hb); have n2_ := Aside0.mk (below_step (uB HB) hb); clear HO_7; clear HO_11; clear HB; have HO_7 := n0_; have HO_11 := n1_; have HB := n2_; clear n0_ n1_ n2_; (try clear hb)))
                (try simp only [Act.put, List.setIfInBounds_toArray, List.set_cons_zero, List.set_cons_succ])
                as_aux_lemma =>
                  go_cut [137] (fun v137 wc => ∃ (kq : Nat) (x137_37 : Bool), v137 = .bool x137_37 ∧ Aside0 (laws_FnSievesOfRows.j1 kq l1 t721 t722 t723 t728 t731 t741 t742 t743 t744 t745 x137_37 = some r) ∧ Aside0 (kq ≤ kj9) ∧ Aside0 (Kd.R (Kd.int .i64) 3 wc w.heap.size (fun k_ => some k_ ≠ (v733 : Value).ownBlock) v725 t723) ∧ Aside0 (Kd.R (Kd.int .i64) 3 wc w.heap.size (fun k_ => some k_ ≠ (v725 : Value).ownBlock) v733 t731) ∧ Aside0 (Below w.heap.size w wc))
                  case first => as_aux_lemma =>
                    have H := HC38.out
                    clear HC38
                    by_cases c42 : (t745 != t747) = true
                    · rw [if_pos c42] at H
                      have c42b0 : (t745 != t747) = true := c42
                      (try (have c42b1 : decide (t745 = t747) = false := by simpa using c42))
                      (try (have c42b2 : (t745 == t747) = false := by simpa using c42))
                      (try (have c42b3 : ¬ (t745 = t747) := by simpa using c42))
                      clear c42
                      (first | rw [c42b0] | (simp only [i64_w, i32_w]; rw [c42b0]) | skip)
                      have H' := Aside0.mk H
                      clear H
                      go_wp2
                      go_meet
                      case rel => exact ⟨_, (true), (by first | rfl | (simp; done) | (simp [*]; done)), H', ⟨by have := HJ9.out; first | omega | exact Nat.le_refl _⟩, ⟨uR HO_7⟩, ⟨uR HO_11⟩, ⟨uB HB⟩⟩
                    · rw [if_neg c42] at H
                      have c42b0 : (t745 != t747) = false := by simpa using c42
                      (try (have c42b1 : decide (t745 = t747) = true := by simpa using c42))
                      (try (have c42b2 : (t745 == t747) = true := by simpa using c42))
                      clear c42
                      (first | rw [c42b0] | (simp only [i64_w, i32_w]; rw [c42b0]) | skip)
                      have H' := Aside0.mk H
                      clear H
                      go_wp2
                      go_meet
                      case rel => exact ⟨_, ((t744 != t746)), (by first | rfl | (simp; done) | (simp [*]; done)), H', ⟨by have := HJ9.out; first | omega | exact Nat.le_refl _⟩, ⟨uR HO_7⟩, ⟨uR HO_11⟩, ⟨uB HB⟩⟩
                  case rest => as_aux_lemma =>
                    clear HC38
                    skip
                    obtain ⟨kq, x137_37, rfl, HA, HJ37, HO_7, HO_11, HB⟩ := hcut
                    cases kq with
                    | zero => exact absurd HA.out (by simp [laws_FnSievesOfRows.j1])
                    | succ kj37 =>
                      have H := HA.out
                      clear HA
                      simp only [laws_FnSievesOfRows.j1] at H
                      by_cases c43 : x137_37 = true
                      · subst c43
                        rw [if_pos rfl] at H
                        exact absurd H (by simp)
                      · replace c43 := Bool.eq_false_iff.mpr c43
                        subst c43
                        rw [if_neg (show ¬ (false = true) by decide)] at H
                        have HC44 := Aside0.mk H
                        clear H
                        as_aux_lemma =>
                          go_upto_if 138 with (fail)
                          go_cut [] (fun wc => ∃ (kq : Nat), Aside0 (laws_FnSievesOfRows.j2 kq l1 t721 t722 t723 t728 t731 = some r) ∧ Aside0 (kq ≤ kj37) ∧ Aside0 (Kd.R (Kd.int .i64) 3 wc w.heap.size (fun k_ => some k_ ≠ (v733 : Value).ownBlock) v725 t723) ∧ Aside0 (Kd.R (Kd.int .i64) 3 wc w.heap.size (fun k_ => some k_ ≠ (v725 : Value).ownBlock) v733 t731) ∧ Aside0 (Below w.heap.size w wc))
                          case first => as_aux_lemma =>
                            have H := HC44.out
                            clear HC44
                            by_cases c45 : t745 = true
                            · subst c45
                              rw [if_pos rfl] at H
                              obtain ⟨⟨t748, t749⟩, A46, H⟩ := bs H; (try dsimp only at H)
                              obtain ⟨⟨t752, t753⟩, A47, H⟩ := bs H; (try dsimp only at H)
                              obtain ⟨⟨t756, t757⟩, A48, H⟩ := bs H; (try dsimp only at H)
                              by_cases c49 : t749 = true
                              · as_aux_lemma =>
                                subst c49
                                rw [if_pos rfl] at H
                                by_cases c50 : t753 = true
                                · subst c50
                                  rw [if_pos rfl] at H
                                  by_cases c51 : t757 = true
                                  · subst c51
                                    rw [if_pos rfl] at H
                                    by_cases c52 : t756 = t744
                                    · rw [if_pos c52] at H
                                      have c52b0 : (t756 == t744) = true := beq_iff_eq.mpr c52
                                      have c52b1 : (t756 != t744) = false := bne_eq_false_iff_eq.mpr c52
                                      clear c52
                                      (first | rw [c52b0] | (simp only [i64_w, i32_w]; rw [c52b0]) | skip)
                                      have H' := Aside0.mk H
                                      clear H
                                      as_aux_lemma =>
                                        go_wp2_with ((with_reducible refine gt ?_); first | (refine gA (some 142) Tryz.func60 #[.int .i64 t741, .int .i64 t742] ?_; (with_reducible refine (impl_GaussOf.calls kj37 t741 t742 t748 true _ A46.out).mono ?_); rintro e w53 ⟨v750, rfl, ho0, hb⟩; refine ⟨_, rfl, ?_⟩; have n0_ := Aside0.mk (Kd.R_elder' (uR HO_7) (Kd.R_base ho0) hb); have n1_ := Aside0.mk (Kd.R_elder' (uR HO_11) (Kd.R_base ho0) hb); have n2_ := Aside0.mk (Kd.R_lower (Kd.R_new' (Kd.R_new' ho0 (Kd.R_lt (uR HO_7))) (Kd.R_lt (uR HO_11))) (below_size (uB HB))); have n3_ := Aside0.mk (below_step (uB HB) hb); clear HO_7; clear HO_11; clear HB; have HO_7 := n0_; have HO_11 := n1_; have HO751 := n2_; have HB := n3_; clear n0_ n1_ n2_ n3_; (try clear hb ho0); obtain ⟨Ao54, co54, eo54⟩ := Kd.R_slice HO751.out; subst eo54) | (refine gA (some 150) Tryz.func68 #[.slice Ao54 t748.length co54, .int .i64 (wrap64 (t741 + t742))] ?_; (with_reducible refine (impl_RemaindersOf.calls kj37 _ _ t748 (wrap64 (t741 + t742)) t752 true _ (uE HO751) ?side2 A47.out).mono ?_); (case side2 => exact (Kd.R_reads' HO751.out).2.1); rintro e w55 ⟨v754, rfl, ho0, hb⟩; refine ⟨_, rfl, ?_⟩; have n0_ := Aside0.mk (Kd.R_elder' (uR HO_7) (Kd.R_base ho0) hb); have n1_ := Aside0.mk (Kd.R_elder' (uR HO_11) (Kd.R_base ho0) hb); have n2_ := Aside0.mk (Kd.R_elder' (uR HO751) (Kd.R_base ho0) hb); have n3_ := Aside0.mk (Kd.R_lower (Kd.R_new' (Kd.R_new' (Kd.R_new' ho0 (Kd.R_lt (uR HO_7))) (Kd.R_lt (uR HO_11))) (Kd.R_lt (uR HO751))) (below_size (uB HB))); have n4_ := Aside0.mk (below_step (uB HB) hb); clear HO_7; clear HO_11; clear HO751; clear HB; have HO_7 := n0_; have HO_11 := n1_; have HO751 := n2_; have HO755 := n3_; have HB := n4_; clear n0_ n1_ n2_ n3_ n4_; (try clear hb ho0); obtain ⟨Ao56, co56, eo56⟩ := Kd.R_slice HO755.out; subst eo56) | (refine gA (some 156) Tryz.func69 #[.slice Ao56 t752.length co56, .int .i64 t743] ?_; (with_reducible refine (impl_ValueByRemainders.calls kj37 _ _ t752 t743 t756 true _ (uE HO755) ?side2 A48.out).mono ?_); (case side2 => exact (Kd.R_reads' HO755.out).2.1); rintro e w57 ⟨rfl, hb⟩; refine ⟨_, rfl, ?_⟩; have n0_ := Aside0.mk (Kd.R_below (uR HO_7) hb); have n1_ := Aside0.mk (Kd.R_below (uR HO_11) hb); have n2_ := Aside0.mk (Kd.R_below (uR HO751) hb); have n3_ := Aside0.mk (Kd.R_below (uR HO755) hb); have n4_ := Aside0.mk (below_step (uB HB) hb); clear HO_7; clear HO_11; clear HO751; clear HO755; clear HB; have HO_7 := n0_; have HO_11 := n1_; have HO751 := n2_; have HO755 := n3_; have HB := n4_; clear n0_ n1_ n2_ n3_ n4_; (try clear hb)))
                                        go_meet
                                        case rel => exact ⟨_, H', ⟨by have := HJ9.out; have := HJ37.out; first | omega | exact Nat.le_refl _⟩, ⟨Kd.R_mono (uR HO_7) (fun _ hk => hk.1.1)⟩, ⟨Kd.R_mono (uR HO_11) (fun _ hk => hk.1.1)⟩, ⟨uB HB⟩⟩
                                    · rw [if_neg c52] at H
                                      exact absurd H (by simp)
                                  · replace c51 := Bool.eq_false_iff.mpr c51
                                    subst c51
                                    rw [if_neg (show ¬ (false = true) by decide)] at H
                                    exact absurd H (by simp)
                                · replace c50 := Bool.eq_false_iff.mpr c50
                                  subst c50
                                  rw [if_neg (show ¬ (false = true) by decide)] at H
                                  exact absurd H (by simp)
                              · replace c49 := Bool.eq_false_iff.mpr c49
                                subst c49
                                rw [if_neg (show ¬ (false = true) by decide)] at H
                                exact absurd H (by simp)
                            · replace c45 := Bool.eq_false_iff.mpr c45
                              subst c45
                              rw [if_neg (show ¬ (false = true) by decide)] at H
                              have H' := Aside0.mk H
                              clear H
                              go_wp2
                              go_meet
                              case rel => exact ⟨_, H', ⟨by have := HJ9.out; have := HJ37.out; first | omega | exact Nat.le_refl _⟩, ⟨uR HO_7⟩, ⟨uR HO_11⟩, ⟨uB HB⟩⟩
                          case rest => as_aux_lemma =>
                            clear HC44
                            skip
                            obtain ⟨kq, HA, HJ43, HO_7, HO_11, HB⟩ := hcut
                            cases kq with
                            | zero => exact absurd HA.out (by simp [laws_FnSievesOfRows.j2])
                            | succ kj43 =>
                              have H := HA.out
                              clear HA
                              simp only [laws_FnSievesOfRows.j2] at H
                              obtain ⟨⟨t758, t759⟩, A58, H⟩ := bs H; (try dsimp only at H)
                              obtain ⟨⟨t762, t763⟩, A59, H⟩ := bs H; (try dsimp only at H)
                              obtain ⟨⟨t766, t767⟩, A60, H⟩ := bs H; (try dsimp only at H)
                              obtain ⟨⟨t770, t771⟩, A61, H⟩ := bs H; (try dsimp only at H)
                              obtain ⟨⟨t774, t775⟩, A62, H⟩ := bs H; (try dsimp only at H)
                              obtain ⟨⟨t776, t777⟩, A63, H⟩ := bs H; (try dsimp only at H)
                              have HC64 := Aside0.mk H
                              clear H
                              as_aux_lemma =>
                                go_upto_region 27 with ((with_reducible refine gt ?_); first | (refine gA (some 176) Tryz.func70 #[.slice A1 l1.length c1] ?_; (with_reducible refine (spec_DrawRemaindersOf.calls kj43 _ _ l1 t758 t759 _ (uD HR1 HB) HC1.out A58.out).mono ?_); rintro e w65 ⟨v760, rfl, ho0, hb⟩; refine ⟨_, rfl, ?_⟩; have n0_ := Aside0.mk (Kd.R_elder' (uR HO_7) (Kd.R_base ho0) hb); have n1_ := Aside0.mk (Kd.R_elder' (uR HO_11) (Kd.R_base ho0) hb); have n2_ := Aside0.mk (Kd.R_lower (Kd.R_new' (Kd.R_new' ho0 (Kd.R_lt (uR HO_7))) (Kd.R_lt (uR HO_11))) (below_size (uB HB))); have n3_ := Aside0.mk (below_step (uB HB) hb); clear HO_7; clear HO_11; clear HB; have HO_7 := n0_; have HO_11 := n1_; have HO761 := n2_; have HB := n3_; clear n0_ n1_ n2_ n3_; (try clear hb ho0); obtain ⟨Ao66, co66, eo66⟩ := Kd.R_slice HO761.out; subst eo66) | (refine gA (some 182) Tryz.func68 #[.slice Ao66 t758.length co66, .int .i64 t759] ?_; (with_reducible refine (impl_RemaindersOf.calls kj43 _ _ t758 t759 t762 t763 _ (uE HO761) ?side2 A59.out).mono ?_); (case side2 => exact (Kd.R_reads' HO761.out).2.1); rintro e w67 ⟨v764, rfl, ho0, hb⟩; refine ⟨_, rfl, ?_⟩; have n0_ := Aside0.mk (Kd.R_elder' (uR HO_7) (Kd.R_base ho0) hb); have n1_ := Aside0.mk (Kd.R_elder' (uR HO_11) (Kd.R_base ho0) hb); have n2_ := Aside0.mk (Kd.R_elder' (uR HO761) (Kd.R_base ho0) hb); have n3_ := Aside0.mk (Kd.R_lower (Kd.R_new' (Kd.R_new' (Kd.R_new' ho0 (Kd.R_lt (uR HO_7))) (Kd.R_lt (uR HO_11))) (Kd.R_lt (uR HO761))) (below_size (uB HB))); have n4_ := Aside0.mk (below_step (uB HB) hb); clear HO_7; clear HO_11; clear HO761; clear HB; have HO_7 := n0_; have HO_11 := n1_; have HO761 := n2_; have HO765 := n3_; have HB := n4_; clear n0_ n1_ n2_ n3_ n4_; (try clear hb ho0)) | (refine gA (some 188) Tryz.func71 #[.slice Ao66 t758.length co66, .int .i64 t759] ?_; (with_reducible refine (spec_RemaindersOf.calls kj43 _ _ t758 t759 t766 t767 _ (uE HO761) ?side2 A60.out).mono ?_); (case side2 => exact (Kd.R_reads' HO761.out).2.1); rintro e w68 ⟨v768, rfl, ho0, hb⟩; refine ⟨_, rfl, ?_⟩; have n0_ := Aside0.mk (Kd.R_elder' (uR HO_7) (Kd.R_base ho0) hb); have n1_ := Aside0.mk (Kd.R_elder' (uR HO_11) (Kd.R_base ho0) hb); have n2_ := Aside0.mk (Kd.R_elder' (uR HO761) (Kd.R_base ho0) hb); have n3_ := Aside0.mk (Kd.R_elder' (uR HO765) (Kd.R_base ho0) hb); have n4_ := Aside0.mk (Kd.R_lower (Kd.R_new' (Kd.R_new' (Kd.R_new' (Kd.R_new' ho0 (Kd.R_lt (uR HO_7))) (Kd.R_lt (uR HO_11))) (Kd.R_lt (uR HO761))) (Kd.R_lt (uR HO765))) (below_size (uB HB))); have n5_ := Aside0.mk (below_step (uB HB) hb); clear HO_7; clear HO_11; clear HO761; clear HO765; clear HB; have HO_7 := n0_; have HO_11 := n1_; have HO761 := n2_; have HO765 := n3_; have HO769 := n4_; have HB := n5_; clear n0_ n1_ n2_ n3_ n4_ n5_; (try clear hb ho0)) | (refine gA (some 193) Tryz.func72 #[.slice A1 l1.length c1] ?_; (with_reducible refine (spec_DrawValueByRemainders.calls kj43 _ _ l1 t770 t771 _ (uD HR1 HB) HC1.out A61.out).mono ?_); rintro e w69 ⟨v772, rfl, ho0, hb⟩; refine ⟨_, rfl, ?_⟩; have n0_ := Aside0.mk (Kd.R_elder' (uR HO_7) (Kd.R_base ho0) hb); have n1_ := Aside0.mk (Kd.R_elder' (uR HO_11) (Kd.R_base ho0) hb); have n2_ := Aside0.mk (Kd.R_elder' (uR HO761) (Kd.R_base ho0) hb); have n3_ := Aside0.mk (Kd.R_elder' (uR HO765) (Kd.R_base ho0) hb); have n4_ := Aside0.mk (Kd.R_elder' (uR HO769) (Kd.R_base ho0) hb); have n5_ := Aside0.mk (Kd.R_lower (Kd.R_new' (Kd.R_new' (Kd.R_new' (Kd.R_new' (Kd.R_new' ho0 (Kd.R_lt (uR HO_7))) (Kd.R_lt (uR HO_11))) (Kd.R_lt (uR HO761))) (Kd.R_lt (uR HO765))) (Kd.R_lt (uR HO769))) (below_size (uB HB))); have n6_ := Aside0.mk (below_step (uB HB) hb); clear HO_7; clear HO_11; clear HO761; clear HO765; clear HO769; clear HB; have HO_7 := n0_; have HO_11 := n1_; have HO761 := n2_; have HO765 := n3_; have HO769 := n4_; have HO773 := n5_; have HB := n6_; clear n0_ n1_ n2_ n3_ n4_ n5_ n6_; (try clear hb ho0); obtain ⟨Ao70, co70, eo70⟩ := Kd.R_slice HO773.out; subst eo70) | (refine gA (some 199) Tryz.func69 #[.slice Ao70 t770.length co70, .int .i64 t771] ?_; (with_reducible refine (impl_ValueByRemainders.calls kj43 _ _ t770 t771 t774 t775 _ (uE HO773) ?side2 A62.out).mono ?_); (case side2 => exact (Kd.R_reads' HO773.out).2.1); rintro e w71 ⟨rfl, hb⟩; refine ⟨_, rfl, ?_⟩; have n0_ := Aside0.mk (Kd.R_below (uR HO_7) hb); have n1_ := Aside0.mk (Kd.R_below (uR HO_11) hb); have n2_ := Aside0.mk (Kd.R_below (uR HO761) hb); have n3_ := Aside0.mk (Kd.R_below (uR HO765) hb); have n4_ := Aside0.mk (Kd.R_below (uR HO769) hb); have n5_ := Aside0.mk (Kd.R_below (uR HO773) hb); have n6_ := Aside0.mk (below_step (uB HB) hb); clear HO_7; clear HO_11; clear HO761; clear HO765; clear HO769; clear HO773; clear HB; have HO_7 := n0_; have HO_11 := n1_; have HO761 := n2_; have HO765 := n3_; have HO769 := n4_; have HO773 := n5_; have HB := n6_; clear n0_ n1_ n2_ n3_ n4_ n5_ n6_; (try clear hb)) | (refine gA (some 205) Tryz.func73 #[.slice Ao70 t770.length co70, .int .i64 t771] ?_; (with_reducible refine (spec_ValueByRemainders.calls kj43 _ _ t770 t771 t776 t777 _ (uE HO773) ?side2 A63.out).mono ?_); (case side2 => exact (Kd.R_reads' HO773.out).2.1); rintro e w' ⟨rfl, ⟨nd, rfl⟩⟩; refine ⟨_, rfl, ?_⟩))
                                (try simp only [Act.put, List.setIfInBounds_toArray, List.set_cons_zero, List.set_cons_succ])
                                as_aux_lemma =>
                                  go_cut [236] (fun v236 wc => ∃ (kq : Nat) (x236_63 : Bool), v236 = .bool x236_63 ∧ Aside0 (laws_FnSievesOfRows.j3 kq t721 t722 t723 t728 t731 x236_63 = some r) ∧ Aside0 (kq ≤ kj43) ∧ Aside0 (Kd.R (Kd.int .i64) 3 wc w.heap.size (fun k_ => some k_ ≠ (v733 : Value).ownBlock) v725 t723) ∧ Aside0 (Kd.R (Kd.int .i64) 3 wc w.heap.size (fun k_ => some k_ ≠ (v725 : Value).ownBlock) v733 t731) ∧ Aside0 (Below w.heap.size w wc))
                                  case first => as_aux_lemma =>
                                    have H := HC64.out
                                    clear HC64
                                    by_cases c72 : (t763 != t767) = true
                                    · rw [if_pos c72] at H
                                      have c72b0 : (t763 != t767) = true := c72
                                      (try (have c72b1 : decide (t763 = t767) = false := by simpa using c72))
                                      (try (have c72b2 : (t763 == t767) = false := by simpa using c72))
                                      (try (have c72b3 : ¬ (t763 = t767) := by simpa using c72))
                                      clear c72
                                      (first | rw [c72b0] | (simp only [i64_w, i32_w]; rw [c72b0]) | skip)
                                      have H' := Aside0.mk H
                                      clear H
                                      go_wp2
                                      go_meet
                                      case rel => exact ⟨_, (true), (by first | rfl | (simp; done) | (simp [*]; done)), H', ⟨by have := HJ9.out; have := HJ37.out; have := HJ43.out; first | omega | exact Nat.le_refl _⟩, ⟨Kd.R_mono (uR HO_7) (fun _ hk => hk.1.1.1.1)⟩, ⟨Kd.R_mono (uR HO_11) (fun _ hk => hk.1.1.1.1)⟩, ⟨uB HB⟩⟩
                                    · rw [if_neg c72] at H
                                      have c72b0 : (t763 != t767) = false := by simpa using c72
                                      (try (have c72b1 : decide (t763 = t767) = true := by simpa using c72))
                                      (try (have c72b2 : (t763 == t767) = true := by simpa using c72))
                                      clear c72
                                      (first | rw [c72b0] | (simp only [i64_w, i32_w]; rw [c72b0]) | skip)
                                      obtain ⟨t778, A73, H⟩ := bs H; (try dsimp only at H)
                                      by_cases c74 : t778 = true
                                      · subst c74
                                        rw [if_pos rfl] at H
                                        by_cases c75 : (t775 != t777) = true
                                        · rw [if_pos c75] at H
                                          have c75b0 : (t775 != t777) = true := c75
                                          (try (have c75b1 : decide (t775 = t777) = false := by simpa using c75))
                                          (try (have c75b2 : (t775 == t777) = false := by simpa using c75))
                                          (try (have c75b3 : ¬ (t775 = t777) := by simpa using c75))
                                          clear c75
                                          have H' := Aside0.mk H
                                          clear H
                                          obtain ⟨Ao76, co76, eo76⟩ := Kd.R_slice HO765.out
                                          subst eo76
                                          obtain ⟨Ao77, co77, eo77⟩ := Kd.R_slice HO769.out
                                          subst eo77
                                          as_aux_lemma =>
                                            go_wp2_with (first | (go_at_call 64; (with_reducible refine (laws_oSame.calls kj43 _ _ t762 _ _ t766 true _ (uE HO765) ?side2 (uE HO769) ?side4 A73.out).mono ?_); (case side2 => exact (Kd.R_reads' HO765.out).2.1); (case side4 => exact (Kd.R_reads' HO769.out).2.1); rintro e w' ⟨rfl, ⟨nd, rfl⟩⟩))
                                            go_meet
                                            case rel => exact ⟨_, (true), (by first | rfl | (simp; done) | (simp [*]; done)), H', ⟨by have := HJ9.out; have := HJ37.out; have := HJ43.out; first | omega | exact Nat.le_refl _⟩, ⟨Kd.R_mono (uR HO_7) (fun _ hk => hk.1.1.1.1)⟩, ⟨Kd.R_mono (uR HO_11) (fun _ hk => hk.1.1.1.1)⟩, ⟨uB HB⟩⟩
                                        · rw [if_neg c75] at H
                                          have c75b0 : (t775 != t777) = false := by simpa using c75
                                          (try (have c75b1 : decide (t775 = t777) = true := by simpa using c75))
                                          (try (have c75b2 : (t775 == t777) = true := by simpa using c75))
                                          clear c75
                                          by_cases c78 : t774 = t776
                                          · rw [if_pos c78] at H
                                            have c78b0 : (t774 == t776) = true := beq_iff_eq.mpr c78
                                            have c78b1 : (t774 != t776) = false := bne_eq_false_iff_eq.mpr c78
                                            clear c78
                                            by_cases c79 : t763 = true
                                            · as_aux_lemma =>
                                              subst c79
                                              rw [if_pos rfl] at H
                                              obtain ⟨t779, A80, H⟩ := bs H; (try dsimp only at H)
                                              obtain ⟨t780, A81, H⟩ := bs H; (try dsimp only at H)
                                              have H' := Aside0.mk H
                                              clear H
                                              obtain ⟨Ao82, co82, eo82⟩ := Kd.R_slice HO765.out
                                              subst eo82
                                              obtain ⟨Ao83, co83, eo83⟩ := Kd.R_slice HO769.out
                                              subst eo83
                                              as_aux_lemma =>
                                                go_wp2_with (first | (go_at_call 64; (with_reducible refine (laws_oSame.calls kj43 _ _ t762 _ _ t766 true _ (uE HO765) ?side2 (uE HO769) ?side4 A73.out).mono ?_); (case side2 => exact (Kd.R_reads' HO765.out).2.1); (case side4 => exact (Kd.R_reads' HO769.out).2.1); rintro e w' ⟨rfl, ⟨nd, rfl⟩⟩) | (go_at_call 74; (with_reducible refine (laws_oSum.calls kj43 _ _ t762 t779 _ (uE HO765) ?side2 A80.out).mono ?_); (case side2 => exact (Kd.R_reads' HO765.out).2.1); rintro e w' ⟨rfl, ⟨nd, rfl⟩⟩) | (go_at_call 74; (with_reducible refine (laws_oSum.calls kj43 _ _ t758 t780 _ (uE HO761) ?side2 A81.out).mono ?_); (case side2 => exact (Kd.R_reads' HO761.out).2.1); rintro e w' ⟨rfl, ⟨nd, rfl⟩⟩))
                                                go_meet
                                                case rel => exact ⟨_, ((t779 != t780)), (by first | rfl | (simp; done) | (simp [*]; done)), H', ⟨by have := HJ9.out; have := HJ37.out; have := HJ43.out; first | omega | exact Nat.le_refl _⟩, ⟨Kd.R_mono (uR HO_7) (fun _ hk => hk.1.1.1.1)⟩, ⟨Kd.R_mono (uR HO_11) (fun _ hk => hk.1.1.1.1)⟩, ⟨uB HB⟩⟩
                                            · replace c79 := Bool.eq_false_iff.mpr c79
                                              subst c79
                                              rw [if_neg (show ¬ (false = true) by decide)] at H
                                              have H' := Aside0.mk H
                                              clear H
                                              obtain ⟨Ao84, co84, eo84⟩ := Kd.R_slice HO765.out
                                              subst eo84
                                              obtain ⟨Ao85, co85, eo85⟩ := Kd.R_slice HO769.out
                                              subst eo85
                                              as_aux_lemma =>
                                                go_wp2_with (first | (go_at_call 64; (with_reducible refine (laws_oSame.calls kj43 _ _ t762 _ _ t766 true _ (uE HO765) ?side2 (uE HO769) ?side4 A73.out).mono ?_); (case side2 => exact (Kd.R_reads' HO765.out).2.1); (case side4 => exact (Kd.R_reads' HO769.out).2.1); rintro e w' ⟨rfl, ⟨nd, rfl⟩⟩))
                                                go_meet
                                                case rel => exact ⟨_, (false), (by first | rfl | (simp; done) | (simp [*]; done)), H', ⟨by have := HJ9.out; have := HJ37.out; have := HJ43.out; first | omega | exact Nat.le_refl _⟩, ⟨Kd.R_mono (uR HO_7) (fun _ hk => hk.1.1.1.1)⟩, ⟨Kd.R_mono (uR HO_11) (fun _ hk => hk.1.1.1.1)⟩, ⟨uB HB⟩⟩
                                          · rw [if_neg c78] at H
                                            have c78b0 : (t774 == t776) = false := beq_eq_false_iff_ne.mpr c78
                                            have c78b1 : (t774 != t776) = true := bne_iff_ne.mpr c78
                                            have H' := Aside0.mk H
                                            clear H
                                            obtain ⟨Ao86, co86, eo86⟩ := Kd.R_slice HO765.out
                                            subst eo86
                                            obtain ⟨Ao87, co87, eo87⟩ := Kd.R_slice HO769.out
                                            subst eo87
                                            as_aux_lemma =>
                                              go_wp2_with (first | (go_at_call 64; (with_reducible refine (laws_oSame.calls kj43 _ _ t762 _ _ t766 true _ (uE HO765) ?side2 (uE HO769) ?side4 A73.out).mono ?_); (case side2 => exact (Kd.R_reads' HO765.out).2.1); (case side4 => exact (Kd.R_reads' HO769.out).2.1); rintro e w' ⟨rfl, ⟨nd, rfl⟩⟩))
                                              go_meet
                                              case rel => exact ⟨_, (true), (by first | rfl | (simp; done) | (simp [*]; done)), H', ⟨by have := HJ9.out; have := HJ37.out; have := HJ43.out; first | omega | exact Nat.le_refl _⟩, ⟨Kd.R_mono (uR HO_7) (fun _ hk => hk.1.1.1.1)⟩, ⟨Kd.R_mono (uR HO_11) (fun _ hk => hk.1.1.1.1)⟩, ⟨uB HB⟩⟩
                                      · replace c74 := Bool.eq_false_iff.mpr c74
                                        subst c74
                                        rw [if_neg (show ¬ (false = true) by decide)] at H
                                        have H' := Aside0.mk H
                                        clear H
                                        obtain ⟨Ao88, co88, eo88⟩ := Kd.R_slice HO765.out
                                        subst eo88
                                        obtain ⟨Ao89, co89, eo89⟩ := Kd.R_slice HO769.out
                                        subst eo89
                                        as_aux_lemma =>
                                          go_wp2_with (first | (go_at_call 64; (with_reducible refine (laws_oSame.calls kj43 _ _ t762 _ _ t766 false _ (uE HO765) ?side2 (uE HO769) ?side4 A73.out).mono ?_); (case side2 => exact (Kd.R_reads' HO765.out).2.1); (case side4 => exact (Kd.R_reads' HO769.out).2.1); rintro e w' ⟨rfl, ⟨nd, rfl⟩⟩))
                                          go_meet
                                          case rel => exact ⟨_, (true), (by first | rfl | (simp; done) | (simp [*]; done)), H', ⟨by have := HJ9.out; have := HJ37.out; have := HJ43.out; first | omega | exact Nat.le_refl _⟩, ⟨Kd.R_mono (uR HO_7) (fun _ hk => hk.1.1.1.1)⟩, ⟨Kd.R_mono (uR HO_11) (fun _ hk => hk.1.1.1.1)⟩, ⟨uB HB⟩⟩
                                  case rest => as_aux_lemma =>
                                    clear HC64
                                    skip
                                    obtain ⟨kq, x236_63, rfl, HA, HJ63, HO_7, HO_11, HB⟩ := hcut
                                    cases kq with
                                    | zero => exact absurd HA.out (by simp [laws_FnSievesOfRows.j3])
                                    | succ kj63 =>
                                      have H := HA.out
                                      clear HA
                                      simp only [laws_FnSievesOfRows.j3] at H
                                      by_cases c90 : x236_63 = true
                                      · subst c90
                                        rw [if_pos rfl] at H
                                        exact absurd H (by simp)
                                      · replace c90 := Bool.eq_false_iff.mpr c90
                                        subst c90
                                        rw [if_neg (show ¬ (false = true) by decide)] at H
                                        by_cases c91 : t728 = true
                                        · subst c91
                                          rw [if_pos rfl] at H
                                          obtain ⟨⟨t781, t784⟩, A92, H⟩ := bs H; (try dsimp only at H)
                                          obtain ⟨⟨t786, t787⟩, A93, H⟩ := bs H; (try dsimp only at H)
                                          obtain ⟨⟨t788, t789⟩, A94, H⟩ := bs H; (try dsimp only at H)
                                          obtain ⟨⟨t792, t793⟩, A95, H⟩ := bs H; (try dsimp only at H)
                                          obtain ⟨⟨t794, t795⟩, A96, H⟩ := bs H; (try dsimp only at H)
                                          have H' := Aside0.mk H
                                          clear H
                                          as_aux_lemma =>
                                            go_wp2_with ((with_reducible refine gt ?_); first | (refine gA (some 242) Tryz.func75 #[.int .i64 t721, .int .i64 t722] ?_; (with_reducible refine (impl_Rectangle.calls kj63 t721 t722 t781 t784 _ A92.out).mono ?_); rintro e w97 ⟨v782, rfl, ho0, hb⟩; refine ⟨_, rfl, ?_⟩; have n0_ := Aside0.mk (Kd.R_elder' (uR HO_7) (Kd.R_base ho0) hb); have n1_ := Aside0.mk (Kd.R_elder' (uR HO_11) (Kd.R_base ho0) hb); have n2_ := Aside0.mk (Kd.R_lower (Kd.R_new' (Kd.R_new' ho0 (Kd.R_lt (uR HO_7))) (Kd.R_lt (uR HO_11))) (below_size (uB HB))); have n3_ := Aside0.mk (below_step (uB HB) hb); clear HO_7; clear HO_11; clear HB; have HO_7 := n0_; have HO_11 := n1_; have HO783 := n2_; have HB := n3_; clear n0_ n1_ n2_ n3_; (try clear hb ho0)) | (refine bE (N := 40) (cs := #[.slice none 0 0]) (t := 26) ?_; intro gb785 hg w98 hbox hb; have n0_ := Aside0.mk (Kd.R_below (uR HO_7) hb); have n1_ := Aside0.mk (Kd.R_below (uR HO_11) hb); have n2_ := Aside0.mk (Kd.R_below (uR HO783) hb); have n3_ := Aside0.mk (below_step (uB HB) hb); have n4_ := Aside0.mk (hbox); have n5_ := Aside0.mk ((by rw [hg]; exact (below_size (uB HB)) : w.heap.size ≤ gb785)); have n6_ := Aside0.mk ((by rw [hg]; exact (below_size (uB HB)) : w.heap.size ≤ gb785)); clear HO_7; clear HO_11; clear HO783; clear HB; have HO_7 := n0_; have HO_11 := n1_; have HO783 := n2_; have HB := n3_; have BK785 := n4_; have GW785 := n5_; have GE785 := n6_; clear n0_ n1_ n2_ n3_ n4_ n5_ n6_; clear hb hbox hg; obtain ⟨Ao99, co99, eo99⟩ := Kd.R_slice HO783.out; subst eo99; have hcz100_0 := bC BK785; have hfz100_0 := blk_frozen BK785.out 0) | (refine gA (some 247) Tryz.func42 #[.agg #[.slice Ao99 t781.length co99]] ?_; (with_reducible refine (impl_CountIdeals.calls kj63 _ _ t781 t786 t787 _ ?side1 ?side2 A93.out).mono ?_); (case side1 => refine (Kd.R_reads' (e := 3) (base := w.heap.size) (ok := fun k_ => ((True ∧ some k_ ≠ (v725 : Value).ownBlock) ∧ some k_ ≠ (v733 : Value).ownBlock)) (n := t781.length) (c := co99) ?_).2.2; exact (rF HO783 BK785 (.slice Ao99 t781.length co99))); (case side2 => exact (Kd.R_reads' HO783.out).2.1); rintro e w101 ⟨rfl, hb⟩; refine ⟨_, rfl, ?_⟩; have n0_ := Aside0.mk (Kd.R_below (rF HO_7 BK785 (.slice Ao99 t781.length co99)) hb); have n1_ := Aside0.mk (Kd.R_below (rF HO_11 BK785 (.slice Ao99 t781.length co99)) hb); have n2_ := Aside0.mk (Kd.R_below (rF HO783 BK785 (.slice Ao99 t781.length co99)) hb); have n3_ := Aside0.mk (blk_below (g := gb785) (o := .cells #[.slice Ao99 t781.length co99] 26 (0, 0)) bP hb); have n4_ := Aside0.mk (below_step (vB HB) hb); clear HO_7; clear HO_11; clear HO783; clear BK785; clear HB; have HO_7 := n0_; have HO_11 := n1_; have HO783 := n2_; have BK785 := n3_; have HB := n4_; clear n0_ n1_ n2_ n3_ n4_; (try clear hb); obtain ⟨Ao102, co102, eo102⟩ := Kd.R_slice HO_7.out; subst eo102) | (refine gA (some 255) Tryz.func68 #[.slice Ao102 t723.length co102, .int .i64 (wrap64 (t721 + t722))] ?_; (with_reducible refine (impl_RemaindersOf.calls kj63 _ _ t723 (wrap64 (t721 + t722)) t788 t789 _ (uE HO_7) ?side2 A94.out).mono ?_); (case side2 => exact (Kd.R_reads' HO_7.out).2.1); rintro e w103 ⟨v790, rfl, ho0, hb⟩; refine ⟨_, rfl, ?_⟩; have n0_ := Aside0.mk (Kd.R_elder' (uR HO_7) (Kd.R_base ho0) hb); have n1_ := Aside0.mk (Kd.R_elder' (uR HO_11) (Kd.R_base ho0) hb); have n2_ := Aside0.mk (Kd.R_elder' (uR HO783) (Kd.R_base ho0) hb); have n3_ := Aside0.mk (Kd.R_lower (Kd.R_new' (Kd.R_new' (Kd.R_new' ho0 (Kd.R_lt (uR HO_7))) (Kd.R_lt (uR HO_11))) (Kd.R_lt (uR HO783))) (below_size (vB HB))); have n4_ := Aside0.mk (blk_below (uK BK785) hb); have n5_ := Aside0.mk (below_step (vB HB) hb); clear HO_7; clear HO_11; clear HO783; clear BK785; clear HB; have HO_7 := n0_; have HO_11 := n1_; have HO783 := n2_; have HO791 := n3_; have BK785 := n4_; have HB := n5_; clear n0_ n1_ n2_ n3_ n4_ n5_; (try clear hb ho0); obtain ⟨Ao104, co104, eo104⟩ := Kd.R_slice HO791.out; subst eo104; obtain ⟨Ao105, co105, eo105⟩ := Kd.R_slice HO_11.out; subst eo105) | (refine gA (some 261) Tryz.func76 #[.slice Ao104 t788.length co104, .slice Ao105 t731.length co105] ?_; (with_reducible refine (impl_IsSieved.calls _ _ t788 _ _ t731 t792 t793 _ (uE HO791) ?side2 (uE HO_11) ?side4 A95.out).mono ?_); (case side2 => exact (Kd.R_reads' HO791.out).2.1); (case side4 => exact (Kd.R_reads' HO_11.out).2.1); rintro e w106 ⟨rfl, hb⟩; refine ⟨_, rfl, ?_⟩; have n0_ := Aside0.mk (Kd.R_below (uR HO_7) hb); have n1_ := Aside0.mk (Kd.R_below (uR HO_11) hb); have n2_ := Aside0.mk (Kd.R_below (uR HO783) hb); have n3_ := Aside0.mk (Kd.R_below (uR HO791) hb); have n4_ := Aside0.mk (blk_below (uK BK785) hb); have n5_ := Aside0.mk (below_step (vB HB) hb); clear HO_7; clear HO_11; clear HO783; clear HO791; clear BK785; clear HB; have HO_7 := n0_; have HO_11 := n1_; have HO783 := n2_; have HO791 := n3_; have BK785 := n4_; have HB := n5_; clear n0_ n1_ n2_ n3_ n4_ n5_; (try clear hb)) | (refine gA (some 267) Tryz.func77 #[.int .i64 t721, .int .i64 t722, .int .i64 1] ?_; (with_reducible refine (impl_BoxBySum.calls kj63 t721 t722 1 t794 t795 _ A96.out).mono ?_); rintro e w107 ⟨v796, rfl, ho0, hb⟩; refine ⟨_, rfl, ?_⟩; have n0_ := Aside0.mk (Kd.R_elder' (uR HO_7) (Kd.R_base ho0) hb); have n1_ := Aside0.mk (Kd.R_elder' (uR HO_11) (Kd.R_base ho0) hb); have n2_ := Aside0.mk (Kd.R_elder' (uR HO783) (Kd.R_base ho0) hb); have n3_ := Aside0.mk (Kd.R_elder' (uR HO791) (Kd.R_base ho0) hb); have n4_ := Aside0.mk (Kd.R_lower (Kd.R_new' (Kd.R_new' (Kd.R_new' (Kd.R_new' ho0 (Kd.R_lt (uR HO_7))) (Kd.R_lt (uR HO_11))) (Kd.R_lt (uR HO783))) (Kd.R_lt (uR HO791))) (below_size (vB HB))); have n5_ := Aside0.mk (blk_below (uK BK785) hb); have n6_ := Aside0.mk (below_step (vB HB) hb); clear HO_7; clear HO_11; clear HO783; clear HO791; clear BK785; clear HB; have HO_7 := n0_; have HO_11 := n1_; have HO783 := n2_; have HO791 := n3_; have HO797 := n4_; have BK785 := n5_; have HB := n6_; clear n0_ n1_ n2_ n3_ n4_ n5_ n6_; (try clear hb ho0)))
                                            as_aux_lemma =>
                                              go_loopg [50, 272] kj63 (fun kq v50 v272 w' => ∃ (x50_5 : Int) (x272_5 : Int), v50 = .int .i64 x50_5 ∧ v272 = .int .i64 x272_5 ∧ Aside0 (laws_FnSievesOfRows.l0 kq t721 t722 t723 t784 t786 t787 t789 t792 t793 t794 t795 x50_5 t731 (t731.length : Int) x272_5 = some r) ∧ Aside0 (kq ≤ kj63) ∧ Aside0 (Kd.R (Kd.int .i64) 3 w' w.heap.size (fun k_ => some k_ ≠ (v796 : Value).ownBlock ∧ some k_ ≠ ((.slice Ao105 t731.length co105) : Value).ownBlock ∧ some k_ ≠ ((.slice Ao99 t781.length co99) : Value).ownBlock) (.slice Ao102 t723.length co102) t723) ∧ Aside0 (Kd.R (Kd.int .i64) 3 w' w.heap.size (fun k_ => some k_ ≠ ((.slice Ao102 t723.length co102) : Value).ownBlock ∧ some k_ ≠ ((.slice Ao105 t731.length co105) : Value).ownBlock ∧ some k_ ≠ ((.slice Ao99 t781.length co99) : Value).ownBlock) v796 t794) ∧ Aside0 (Kd.R (Kd.int .i64) 3 w' w.heap.size (fun k_ => some k_ ≠ ((.slice Ao102 t723.length co102) : Value).ownBlock ∧ some k_ ≠ (v796 : Value).ownBlock ∧ some k_ ≠ ((.slice Ao99 t781.length co99) : Value).ownBlock) (.slice Ao105 t731.length co105) t731) ∧ Aside0 (Kd.R (Kd.int .i64) 3 w' w.heap.size (fun k_ => some k_ ≠ ((.slice Ao102 t723.length co102) : Value).ownBlock ∧ some k_ ≠ (v796 : Value).ownBlock ∧ some k_ ≠ ((.slice Ao105 t731.length co105) : Value).ownBlock) (.slice Ao99 t781.length co99) t781) ∧ Aside0 (w'.heap[gb785]? = some (.cells #[(.slice Ao99 t781.length co99)] 26 (0, 0))) ∧ Aside0 (Below w.heap.size w w'))
                                              case atStart => exact ⟨(0), (0), (by first | rfl | (simp; done) | (simp [*]; done)), (by first | rfl | (simp; done) | (simp [*]; done)), H', ⟨Nat.le_refl _⟩, ⟨Kd.R_mono (uR HO_7) (fun _ hk => ⟨hk.2, ⟨hk.1.1.1, hk.1.1.2⟩⟩)⟩, ⟨Kd.R_mono (uR HO797) (fun _ hk => ⟨hk.1.1.1.2, ⟨hk.1.1.2, hk.1.2⟩⟩)⟩, ⟨Kd.R_mono (uR HO_11) (fun _ hk => ⟨hk.1.1.1, ⟨hk.2, hk.1.1.2⟩⟩)⟩, ⟨Kd.R_mono (uR HO783) (fun _ hk => ⟨hk.1.1.1.2, ⟨hk.2, hk.1.1.2⟩⟩)⟩, ⟨uK BK785⟩, ⟨(vB HB)⟩⟩
                                              case round => as_aux_lemma =>
                                                clear H'
                                                try clear hcz100_0 hfz100_0
                                                obtain ⟨x50_5, x272_5, rfl, rfl, HA, HK5, HO_7, HO_48, HO_270, HO_786000, BK785, HB⟩ := hrel
                                                cases gk with
                                                | zero => exact absurd HA.out (by simp [laws_FnSievesOfRows.l0])
                                                | succ k5 =>
                                                  have H := HA.out
                                                  clear HA
                                                  simp only [laws_FnSievesOfRows.l0] at H
                                                  by_cases c108 : x272_5 < (t731.length : Int)
                                                  · rw [if_pos c108] at H
                                                    have c108b0 := decide_eq_true c108
                                                    clear c108
                                                    by_cases c109 : 0 ≤ x272_5
                                                    · rw [if_pos c109] at H
                                                      have c109b0 := decide_eq_true c109
                                                      clear c109
                                                      by_cases c110 : x272_5 < (t731.length : Int)
                                                      · rw [if_pos c110] at H
                                                        have c110b0 := decide_eq_true c110
                                                        clear c110
                                                        by_cases c111 : (rd t731 x272_5) = 0
                                                        · rw [if_pos c111] at H
                                                          exact absurd H (by simp)
                                                        · rw [if_neg c111] at H
                                                          have c111b0 : ((rd t731 x272_5) == 0) = false := beq_eq_false_iff_ne.mpr c111
                                                          have c111b1 : ((rd t731 x272_5) != 0) = true := bne_iff_ne.mpr c111
                                                          by_cases c112 : (Int.tmod (wrap64 (t721 + t722)) (rd t731 x272_5)) = 0
                                                          · as_aux_lemma =>
                                                            rw [if_pos c112] at H
                                                            have c112b0 : ((Int.tmod (wrap64 (t721 + t722)) (rd t731 x272_5)) == 0) = true := beq_iff_eq.mpr c112
                                                            have c112b1 : ((Int.tmod (wrap64 (t721 + t722)) (rd t731 x272_5)) != 0) = false := bne_eq_false_iff_eq.mpr c112
                                                            clear c112
                                                            have H' := Aside0.mk H
                                                            clear H
                                                            have p798 : 0 ≤ (x272_5 : Int) := of_decide_eq_true (by first | (with_reducible assumption) | assumption)
                                                            have q798 : x272_5 < (t731.length : Int) := of_decide_eq_true (by first | (with_reducible assumption) | assumption)
                                                            obtain ⟨ad798, e798, hx798_0⟩ := Kd.at_int (Kd.R_reads' HO_270.out).2.2 x272_5 p798 q798
                                                            cases e798
                                                            replace p798 := eq_true p798
                                                            replace q798 := eq_true q798
                                                            go_wp2
                                                            go_roundg k5
                                                            case measure => have := HJ9.out; have := HJ37.out; have := HJ43.out; have := HJ63.out; have := HK5.out; omega
                                                            case rel => exact ⟨(wrap64 (x50_5 + (wrap64 (Int.tdiv (wrap64 (t721 + t722)) (rd t731 x272_5))))), (wrap64 (x272_5 + 1)), (by first | rfl | (simp; done) | (simp [*]; done)), (by first | rfl | (simp; done) | (simp [*]; done)), H', ⟨by have := HJ9.out; have := HJ37.out; have := HJ43.out; have := HJ63.out; have := HK5.out; omega⟩, ⟨uR HO_7⟩, ⟨uR HO_48⟩, ⟨uR HO_270⟩, ⟨uR HO_786000⟩, ⟨uK BK785⟩, ⟨(vB HB)⟩⟩
                                                          · rw [if_neg c112] at H
                                                            exact absurd H (by simp)
                                                      · rw [if_neg c110] at H
                                                        exact absurd H (by simp)
                                                    · rw [if_neg c109] at H
                                                      exact absurd H (by simp)
                                                  · rw [if_neg c108] at H
                                                    have c108b0 := decide_eq_false c108
                                                    clear c108
                                                    by_cases c113 : t784 = true
                                                    · subst c113
                                                      rw [if_pos rfl] at H
                                                      by_cases c114 : t787 = true
                                                      · subst c114
                                                        rw [if_pos rfl] at H
                                                        by_cases c115 : t789 = true
                                                        · subst c115
                                                          rw [if_pos rfl] at H
                                                          by_cases c116 : t793 = true
                                                          · as_aux_lemma =>
                                                            subst c116
                                                            rw [if_pos rfl] at H
                                                            by_cases c117 : t795 = true
                                                            · subst c117
                                                              rw [if_pos rfl] at H
                                                              by_cases c118 : t792 = true
                                                              · subst c118
                                                                rw [if_pos rfl] at H
                                                                by_cases c119 : x50_5 = t786
                                                                · rw [if_pos c119] at H
                                                                  have c119b0 : (x50_5 == t786) = true := beq_iff_eq.mpr c119
                                                                  have c119b1 : (x50_5 != t786) = false := bne_eq_false_iff_eq.mpr c119
                                                                  clear c119
                                                                  obtain ⟨t799, A120, H⟩ := bs H; (try dsimp only at H)
                                                                  by_cases c121 : t799 = t786
                                                                  · rw [if_pos c121] at H
                                                                    have c121b0 : (t799 == t786) = true := beq_iff_eq.mpr c121
                                                                    have c121b1 : (t799 != t786) = false := bne_eq_false_iff_eq.mpr c121
                                                                    clear c121
                                                                    obtain ⟨t800, A122, H⟩ := bs H; (try dsimp only at H)
                                                                    obtain rfl := Option.some.inj H
                                                                    as_aux_lemma =>
                                                                      go_wp2_with (first | (go_at_call 74; (with_reducible refine (laws_oSum.calls k5 _ _ t723 t799 _ (uE HO_7) ?side2 A120.out).mono ?_); (case side2 => exact (Kd.R_reads' HO_7.out).2.1); rintro e w' ⟨rfl, ⟨nd, rfl⟩⟩; obtain ⟨Ao123, co123, eo123⟩ := Kd.R_slice HO_48.out; subst eo123) | (go_at_call 64; (with_reducible refine (laws_oSame.calls k5 _ _ t794 _ _ t723 t800 _ (uE HO_48) ?side2 (uE HO_7) ?side4 A122.out).mono ?_); (case side2 => exact (Kd.R_reads' HO_48.out).2.1); (case side4 => exact (Kd.R_reads' HO_7.out).2.1); rintro e w' ⟨rfl, ⟨nd, rfl⟩⟩))
                                                                      go_ret
                                                                      exact ⟨by first | rfl | (simp [errW_none, errW_some] <;> rfl) | (simp [*, errW_none, errW_some] <;> rfl), (vB HB)⟩
                                                                  · rw [if_neg c121] at H
                                                                    exact absurd H (by simp)
                                                                · rw [if_neg c119] at H
                                                                  exact absurd H (by simp)
                                                              · replace c118 := Bool.eq_false_iff.mpr c118
                                                                subst c118
                                                                rw [if_neg (show ¬ (false = true) by decide)] at H
                                                                exact absurd H (by simp)
                                                            · replace c117 := Bool.eq_false_iff.mpr c117
                                                              subst c117
                                                              rw [if_neg (show ¬ (false = true) by decide)] at H
                                                              exact absurd H (by simp)
                                                          · replace c116 := Bool.eq_false_iff.mpr c116
                                                            subst c116
                                                            rw [if_neg (show ¬ (false = true) by decide)] at H
                                                            exact absurd H (by simp)
                                                        · replace c115 := Bool.eq_false_iff.mpr c115
                                                          subst c115
                                                          rw [if_neg (show ¬ (false = true) by decide)] at H
                                                          exact absurd H (by simp)
                                                      · replace c114 := Bool.eq_false_iff.mpr c114
                                                        subst c114
                                                        rw [if_neg (show ¬ (false = true) by decide)] at H
                                                        exact absurd H (by simp)
                                                    · replace c113 := Bool.eq_false_iff.mpr c113
                                                      subst c113
                                                      rw [if_neg (show ¬ (false = true) by decide)] at H
                                                      exact absurd H (by simp)
                                        · replace c91 := Bool.eq_false_iff.mpr c91
                                          subst c91
                                          rw [if_neg (show ¬ (false = true) by decide)] at H
                                          obtain rfl := Option.some.inj H
                                          go_wp2
                                          go_ret
                                          exact ⟨by first | rfl | (simp [errW_none, errW_some] <;> rfl) | (simp [*, errW_none, errW_some] <;> rfl), uB HB⟩
def laws_FnSievesOfRows.Pure : Prop := ∀ (l0 : List Int) (l1 : List Int), l0.length ≤ maxLen → l0.length * 1 ≤ 140737488351232 → (∀ x ∈ l0, (Lit.int .u8 x).wf = true) → l1.length ≤ maxLen → l1.length * 1 ≤ 140737488351232 → (∀ x ∈ l1, (Lit.int .u8 x).wf = true) → ∃ k, laws_FnSievesOfRows.f k l0 l1 = some true
theorem laws_FnSievesOfRows.walk (P : laws_FnSievesOfRows.Pure) (a0 : Option Addr) (len0 cap0 : Nat) (z0 : List Int) (a1 : Option Addr) (len1 cap1 : Nat) (z1 : List Int) (w : World) (w0 : (a0 = none ∧ len0 = 0 ∧ cap0 = 0 ∧ z0 = []) ∨ ∃ x, a0 = some x ∧ len0 ≤ cap0 ∧ cap0 ≤ maxLen ∧ z0.length = cap0 ∧ (∀ i, i < z0.length → w.cell? (x.add i) = some (.int .u8 (z0.getD i 0))) ∧ ∀ n ∈ z0, (Lit.int .u8 n).wf = true) (y0 : len0 * 1 ≤ 140737488351232) (w1 : (a1 = none ∧ len1 = 0 ∧ cap1 = 0 ∧ z1 = []) ∨ ∃ x, a1 = some x ∧ len1 ≤ cap1 ∧ cap1 ≤ maxLen ∧ z1.length = cap1 ∧ (∀ i, i < z1.length → w.cell? (x.add i) = some (.int .u8 (z1.getD i 0))) ∧ ∀ n ∈ z1, (Lit.int .u8 n).wf = true) (y1 : len1 * 1 ≤ 140737488351232) :
    Calls Tryz.prog 5 #[.slice a0 len0 cap0, .slice a1 len1 cap1] w fun e w' => e = .returned (.bool true) ∧ Below w.heap.size w w' := by
  obtain ⟨l0, rfl, hr0, hm0, hw0, hc0⟩ := ReadsInt.ofRowC w0
  obtain ⟨l1, rfl, hr1, hm1, hw1, hc1⟩ := ReadsInt.ofRowC w1
  obtain ⟨k, h⟩ := P l0 l1 hm0 y0 hw0 hm1 y1 hw1
  refine (laws_FnSievesOfRows.calls k _ _ l0 _ _ l1 true w (Kd.C_of_reads (d := (0 : Int)) (h1 := fun _ => rfl) hr0) hc0 (Kd.C_of_reads (d := (0 : Int)) (h1 := fun _ => rfl) hr1) hc1 h).mono ?_
  rintro e w' ⟨rfl, hd⟩
  exact ⟨rfl, hd⟩
end Go.Proofs.YtkgngggppcmpfaaGreat.L
end
section
namespace Go.Proofs.YtkgngggppcmpfaaGreat.M
open Go.RowKit Go.Proofs.YtkgngggppcmpfaaGreatW.PrintWords Go.Proofs.YtkgngggppcmpfaaGreatW.PrintLast Go.Proofs.YtkgngggppcmpfaaGreatW.PrintMore
theorem wrap_id {x : Int} (h0 : -9223372036854775808 ≤ x) (h1 : x ≤ 9223372036854775807) : wrap64 x = x := by unfold wrap64; omega
theorem wrap_succ {i : Nat} (h : i < 9223372036854775807) : wrap64 ((i : Int) + 1) = ((i + 1 : Nat) : Int) := by unfold wrap64; omega
theorem rd_get {l : List Int} {i : Nat} (h : i < l.length) : rd l (i : Int) = l[i] := by simp [rd, List.getD_eq_getElem?_getD, h]
theorem ev_det {α : Type} {g : Nat → Option α} {r r' : α} (h : Ev g r) (h' : Ev g r') : r = r' := by
  obtain ⟨K, h⟩ := h; obtain ⟨K', h'⟩ := h'
  have a := h (max K K') (by omega); have b := h' (max K K') (by omega)
  exact Option.some.inj (a.symm.trans b)
theorem ev_ite {α : Type} {c : Prop} [Decidable c] {f g : Nat → Option α} {r : α} (h1 : c → Ev f r) (h2 : ¬ c → Ev g r) : Ev (fun k => if c then f k else g k) r := by
  by_cases h : c
  · obtain ⟨K, hK⟩ := h1 h; exact ⟨K, fun k hk => by simp only [if_pos h]; exact hK k hk⟩
  · obtain ⟨K, hK⟩ := h2 h; exact ⟨K, fun k hk => by simp only [if_neg h]; exact hK k hk⟩
theorem ev_pos {α : Type} {c : Prop} [Decidable c] {f g : Nat → Option α} {r : α} (h : c) (h1 : Ev f r) : Ev (fun k => if c then f k else g k) r := ev_ite (fun _ => h1) (fun h2 => absurd h h2)
theorem ev_neg {α : Type} {c : Prop} [Decidable c] {f g : Nat → Option α} {r : α} (h : ¬ c) (h1 : Ev g r) : Ev (fun k => if c then f k else g k) r := ev_ite (fun h2 => absurd h2 h) (fun _ => h1)
theorem ev_call {α β : Type} {x : Option α} {a : α} {f : Nat → α → Option β} {r : β} (h : x = some a) (k : Ev (fun n => f n a) r) : Ev (fun n => x.bind (f n)) r := by subst h; simpa using k
def inB (x lo hi : Int) : Bool := decide (lo ≤ x) && decide (x ≤ hi)
theorem inB_iff {x lo hi : Int} : inB x lo hi = true ↔ lo ≤ x ∧ x ≤ hi := by simp [inB]
end Go.Proofs.YtkgngggppcmpfaaGreat.M
end
section
namespace Go.Proofs.YtkgngggppcmpfaaGreat.M
open Go.RowKit Go.Proofs.YtkgngggppcmpfaaGreatW.PrintWords Go.Proofs.YtkgngggppcmpfaaGreatW.PrintLast Go.Proofs.YtkgngggppcmpfaaGreatW.PrintMore Go.Proofs.YtkgngggppcmpfaaGreat.L
theorem l1In_eq (x lo hi : Int) : spec_l1In.f x lo hi = some (inB x lo hi) := by
  unfold spec_l1In.f inB
  by_cases h : lo ≤ x <;> simp [h]
theorem within_eq (x lo hi : Int) : impl_within.f x lo hi = some (inB x lo hi) := by
  unfold impl_within.f inB
  by_cases h : lo ≤ x <;> simp [h]
theorem l1All_l0 (l : List Int) (lo hi : Int) (hl : l.length ≤ 9223372036854775806) : ∀ (d i : Nat), i + d = l.length → Ev (fun k => spec_l1All.l0 k lo hi l (l.length : Int) i) ((l.drop i).all (inB · lo hi))
  | 0, i, h => by
    refine Ev.step (fun _ => rfl) (ev_neg (by omega) ?_)
    rw [List.drop_of_length_le (by omega)]; exact Ev.now _
  | d + 1, i, h => by
    refine Ev.step (fun _ => rfl) (ev_pos (by omega) (ev_pos (by omega) (ev_pos (by omega) (ev_call (l1In_eq _ _ _) ?_))))
    rw [rd_get (by omega : i < l.length), wrap_succ (by omega), List.drop_eq_getElem_cons (by omega : i < l.length), List.all_cons]
    refine ev_ite (fun e => ?_) (fun e => ?_)
    · rw [e, Bool.true_and]; exact l1All_l0 l lo hi hl d (i + 1) (by omega)
    · rw [Bool.eq_false_iff.mpr e, Bool.false_and]; exact Ev.now _
theorem l1All_ev (l : List Int) (lo hi : Int) (hl : l.length ≤ 9223372036854775806) : Ev (fun k => spec_l1All.f k l lo hi) (l.all (inB · lo hi)) := l1All_l0 l lo hi hl l.length 0 (by omega)
end Go.Proofs.YtkgngggppcmpfaaGreat.M
end
section
namespace Go.Proofs.YtkgngggppcmpfaaGreat.M
open Go.RowKit Go.Proofs.YtkgngggppcmpfaaGreatW.PrintWords Go.Proofs.YtkgngggppcmpfaaGreatW.PrintLast Go.Proofs.YtkgngggppcmpfaaGreatW.PrintMore Go.Proofs.YtkgngggppcmpfaaGreat.L
set_option linter.unusedVariables false
def sidesB (a b : Int) : Bool := inB a 1 10 && inB b 1 10 && decide (a * b ≤ 10)
def allSides (f : Int → Int → Bool) : Bool := (List.range' 1 10).all fun a => (List.range' 1 10).all fun b => !(decide (a * b ≤ 10)) || f (a : Int) (b : Int)
theorem allSides_of {f : Int → Int → Bool} (h : allSides f = true) {a b : Int} (hs : sidesB a b = true) : f a b = true := by
  unfold sidesB at hs
  rw [Bool.and_eq_true, Bool.and_eq_true, inB_iff, inB_iff, decide_eq_true_eq] at hs
  obtain ⟨⟨h1, h2⟩, h3⟩ := hs
  obtain ⟨m, rfl⟩ : ∃ m : Nat, a = (m : Int) := ⟨a.toNat, by omega⟩
  obtain ⟨n, rfl⟩ : ∃ n : Nat, b = (n : Int) := ⟨b.toNat, by omega⟩
  unfold allSides at h
  rw [List.all_eq_true] at h
  have h4 := h m (by rw [List.mem_range'_1]; omega)
  rw [List.all_eq_true] at h4
  have h5 := h4 n (by rw [List.mem_range'_1]; omega)
  have h6' : ((m * n : Nat) : Int) ≤ 10 := by rw [Int.natCast_mul]; exact h3
  have h6 : m * n ≤ 10 := by omega
  rw [Bool.or_eq_true, Bool.not_eq_true', decide_eq_false_iff_not] at h5
  rcases h5 with h5 | h5
  · exact absurd h6 h5
  · exact h5
theorem mul_small {a b : Int} (h1 : inB a 1 10 = true) (h2 : inB b 1 10 = true) : wrap64 (a * b) = a * b := by
  have b1 := inB_iff.mp h1
  have b2 := inB_iff.mp h2
  have h3 : 0 ≤ a * b := Int.mul_nonneg (by omega) (by omega)
  have h4 : a * b ≤ 10 * 10 := Int.mul_le_mul b1.2 b2.2 (by omega) (by omega)
  exact wrap_id (by omega) (by omega)
theorem shSides_eq (a b : Int) : spec_shSides.f a b = some (sidesB a b) := by
  unfold spec_shSides.f sidesB
  rw [l1In_eq, l1In_eq]
  cases h1 : inB a 1 10
  · rfl
  · cases h2 : inB b 1 10
    · rfl
    · rw [mul_small h1 h2]; rfl
theorem areSides_eq (a b : Int) : impl_areSides.f a b 10 = some (sidesB a b) := by
  unfold impl_areSides.f sidesB
  rw [within_eq, within_eq]
  cases h1 : inB a 1 10
  · rfl
  · cases h2 : inB b 1 10
    · rfl
    · rw [mul_small h1 h2]; rfl
def gaussB (a b : Int) : Bool := match spec_GaussOf.f 1200 a b, impl_GaussOf.f 1200 a b with
  | some r, some s => r == s && decide (r.1.length ≤ 1000)
  | _, _ => false
theorem gauss_all : allSides gaussB = true := by decide +kernel
theorem agree_FnExactGaussOf (a b : Int) : ∃ r : List Int × Bool, r.1.length ≤ 1000 ∧ Ev (fun k => spec_GaussOf.f k a b) r ∧ Ev (fun k => impl_GaussOf.f k a b) r := by
  by_cases h : sidesB a b = true
  · have hg := allSides_of gauss_all h
    unfold gaussB at hg
    split at hg
    · rename_i r s h1 h2
      rw [Bool.and_eq_true, beq_iff_eq, decide_eq_true_eq] at hg
      obtain ⟨rfl, hl⟩ := hg
      exact ⟨r, hl, Ev.of (spec_GaussOf.mono a b) h1, Ev.of (impl_GaussOf.mono a b) h2⟩
    · cases hg
  · refine ⟨([], false), Nat.zero_le _, ev_call (shSides_eq a b) (ev_neg h (Ev.now _)), ?_⟩
    exact Ev.bind (a := ([], false)) (ev_call (areSides_eq a b) (ev_neg h (Ev.now _))) (ev_neg (by simp) (Ev.now _))
end Go.Proofs.YtkgngggppcmpfaaGreat.M
end
section
namespace Go.Proofs.YtkgngggppcmpfaaGreat.M
open Go.RowKit Go.Proofs.YtkgngggppcmpfaaGreatW.PrintWords Go.Proofs.YtkgngggppcmpfaaGreatW.PrintLast Go.Proofs.YtkgngggppcmpfaaGreatW.PrintMore Go.Proofs.YtkgngggppcmpfaaGreat.L
theorem areUpTo_eq (l : List Int) (m : Int) (hl : l.length ≤ 9223372036854775806) : impl_areUpTo.f l m = some (l.all (inB · 0 m)) := by
  unfold impl_areUpTo.f
  rw [if_pos hl]
  congr 1
  rw [Bool.eq_iff_iff]
  simp [impl_areUpTo.p, inB]
theorem isTurn_eq (n : Int) : impl_isTurn.f n = some (inB n 1 60) := by simp [impl_isTurn.f, within_eq]
end Go.Proofs.YtkgngggppcmpfaaGreat.M
end
section
namespace Go.Proofs.YtkgngggppcmpfaaGreat.M
open Go.RowKit Go.Proofs.YtkgngggppcmpfaaGreatW.PrintWords Go.Proofs.YtkgngggppcmpfaaGreatW.PrintLast Go.Proofs.YtkgngggppcmpfaaGreatW.PrintMore Go.Proofs.YtkgngggppcmpfaaGreat.L
theorem tmod_nat {i n : Nat} : Int.tmod (i : Int) (n : Int) = ((i % n : Nat) : Int) := by rw [Int.ofNat_tmod]
theorem rem_l0 (n : Nat) (hn : 1 ≤ n) (c : List Int) (hc : c.length ≤ 1000) : ∀ (d i : Nat) (acc : List Int), i + d = c.length → acc.length = n →
    ∃ r : List Int, r.length = n ∧ Ev (fun k => spec_RemaindersOf.l0 k (n : Int) acc c (c.length : Int) i) (r, true) ∧ Ev (fun k => impl_RemaindersOf.l0 k (n : Int) acc c (c.length : Int) i) (r, true)
  | 0, i, acc, h, ha => ⟨acc, ha, Ev.step (fun _ => rfl) (ev_neg (by omega) (Ev.now _)), Ev.step (fun _ => rfl) (ev_neg (by omega) (Ev.now _))⟩
  | d + 1, i, acc, h, ha => by
    have hm : i % n < n := Nat.mod_lt _ (by omega)
    obtain ⟨r, hr, h1, h2⟩ := rem_l0 n hn c hc d (i + 1) (acc.set (i % n) (wrap64 (rd acc ((i % n : Nat) : Int) + rd c i))) (by omega) (by simp [ha])
    refine ⟨r, hr, Ev.step (fun _ => spec_RemaindersOf.l0.eq_2 ..) ?_, Ev.step (fun _ => impl_RemaindersOf.l0.eq_2 ..) ?_⟩
    all_goals
      rw [tmod_nat, wrap_succ (by omega)]
      refine ev_pos (by omega) (ev_pos (by omega) (ev_pos (by omega) (ev_neg (by omega) (ev_pos (by omega) (ev_pos (by omega) ?_)))))
    · rw [Int.toNat_natCast]; exact h1
    · rw [Int.toNat_natCast]; exact h2
theorem remainders (c : List Int) (n : Int) (hl : c.length ≤ 2000000) : ∃ r : List Int × Bool, r.1.length ≤ 60 ∧ Ev (fun k => spec_RemaindersOf.f k c n) r ∧ Ev (fun k => impl_RemaindersOf.f k c n) r := by
  have hfail : Ev (fun k => spec_RemaindersOf.j0 k c n true) ([], false) ∧ Ev (fun k => impl_RemaindersOf.j0 k c n true) ([], false) := ⟨Ev.step (fun _ => spec_RemaindersOf.j0.eq_2 ..) (ev_pos rfl (Ev.now _)), Ev.step (fun _ => impl_RemaindersOf.j0.eq_2 ..) (ev_pos rfl (Ev.now _))⟩
  by_cases h1 : inB (c.length : Int) 1 100 = true
  · by_cases h2 : c.all (inB · 0 1000000) = true
    · by_cases h3 : inB n 1 60 = true
      · have b1 := inB_iff.mp h1
        have b3 := inB_iff.mp h3
        obtain ⟨m, rfl⟩ : ∃ m : Nat, n = m := ⟨n.toNat, by omega⟩
        obtain ⟨r, hr, e1, e2⟩ := rem_l0 m (by omega) c (by omega) c.length 0 (List.replicate m 0) (by omega) (by simp)
        refine ⟨(r, true), by simp only; omega, ?_, ?_⟩
        · refine ev_call (l1In_eq _ _ _) (ev_pos h1 (Ev.bind (l1All_ev c 0 1000000 (by omega)) (ev_pos h2 (ev_call (l1In_eq _ _ _) ?_))))
          rw [h3]
          exact Ev.step (fun _ => spec_RemaindersOf.j0.eq_2 ..) (ev_neg (by simp) (ev_pos (by omega) (ev_pos (by omega) (by simpa using e1))))
        · refine ev_call (within_eq _ _ _) (ev_pos h1 (ev_call (areUpTo_eq c _ (by omega)) (ev_pos h2 (ev_call (isTurn_eq _) ?_))))
          rw [h3]
          exact Ev.step (fun _ => impl_RemaindersOf.j0.eq_2 ..) (ev_neg (by simp) (ev_pos (by omega) (ev_pos (by omega) (by simpa using e2))))
      · refine ⟨([], false), by simp, ?_, ?_⟩
        · refine ev_call (l1In_eq _ _ _) (ev_pos h1 (Ev.bind (l1All_ev c 0 1000000 (by omega)) (ev_pos h2 (ev_call (l1In_eq _ _ _) ?_))))
          rw [Bool.eq_false_iff.mpr h3]; exact hfail.1
        · refine ev_call (within_eq _ _ _) (ev_pos h1 (ev_call (areUpTo_eq c _ (by omega)) (ev_pos h2 (ev_call (isTurn_eq _) ?_))))
          rw [Bool.eq_false_iff.mpr h3]; exact hfail.2
    · refine ⟨([], false), by simp, ?_, ?_⟩
      · exact ev_call (l1In_eq _ _ _) (ev_pos h1 (Ev.bind (l1All_ev c 0 1000000 (by omega)) (ev_neg h2 hfail.1)))
      · exact ev_call (within_eq _ _ _) (ev_pos h1 (ev_call (areUpTo_eq c _ (by omega)) (ev_neg h2 hfail.2)))
  · exact ⟨([], false), by simp, ev_call (l1In_eq _ _ _) (ev_neg h1 hfail.1), ev_call (within_eq _ _ _) (ev_neg h1 hfail.2)⟩
end Go.Proofs.YtkgngggppcmpfaaGreat.M
namespace Go.Proofs.YtkgngggppcmpfaaGreat.Pure
open Go.RowKit Go.Proofs.YtkgngggppcmpfaaGreatW.PrintWords Go.Proofs.YtkgngggppcmpfaaGreatW.PrintLast Go.Proofs.YtkgngggppcmpfaaGreatW.PrintMore Go.Proofs.YtkgngggppcmpfaaGreat.L Go.Proofs.YtkgngggppcmpfaaGreat.M
end Go.Proofs.YtkgngggppcmpfaaGreat.Pure
end
section
namespace Go.Proofs.YtkgngggppcmpfaaGreat.M
open Go.RowKit Go.Proofs.YtkgngggppcmpfaaGreatW.PrintWords Go.Proofs.YtkgngggppcmpfaaGreatW.PrintLast Go.Proofs.YtkgngggppcmpfaaGreatW.PrintMore Go.Proofs.YtkgngggppcmpfaaGreat.L Go.Proofs.YtkgngggppcmpfaaGreat.X
set_option linter.unusedVariables false
theorem areRests_eq (l : List Int) (hl : l.length ≤ 9223372036854775806) : impl_areRests.f l = some (inB (l.length : Int) 1 60 && l.all (inB · 0 100000000)) := by
  unfold impl_areRests.f
  rw [isTurn_eq]
  cases h : inB (l.length : Int) 1 60
  · rfl
  · rw [Option.bind_some, if_pos rfl, areUpTo_eq l _ hl]; rfl
theorem svRests_ev (l : List Int) (hl : l.length ≤ 9223372036854775806) : Ev (fun k => spec_svRests.f k l) (inB (l.length : Int) 1 60 && l.all (inB · 0 100000000)) := by
  refine ev_call (l1In_eq _ _ _) (ev_ite (fun e => ?_) (fun e => ?_))
  · rw [e, Bool.true_and]; exact Ev.bind (l1All_ev l _ _ hl) (Ev.now _)
  · rw [Bool.eq_false_iff.mpr e, Bool.false_and]; exact Ev.now _
def divsI (j q n : Nat) : List Int := ((List.range' j q).map fun i : Nat => (i : Int)).filter fun i => Int.tmod (n : Int) i == 0
def divB (n : Nat) : Bool := impl_divisors.f 100 (n : Int) == some (divsI 1 n n)
theorem div_table : ((List.range' 1 60).all divB) = true := by decide +kernel
theorem div_at {n : Nat} (h1 : 1 ≤ n) (h2 : n ≤ 60) : impl_divisors.f 100 (n : Int) = some (divsI 1 n n) := by
  have h := div_table
  rw [List.all_eq_true] at h
  have h3 := h n (by rw [List.mem_range'_1]; omega)
  unfold divB at h3
  exact beq_iff_eq.mp h3
theorem rem_at {j n : Nat} (h1 : 1 ≤ n) : 0 ≤ Int.tmod (j : Int) (n : Int) ∧ Int.tmod (j : Int) (n : Int) < (n : Int) := by
  refine ⟨Int.tmod_nonneg _ (by omega), ?_⟩
  exact Int.tmod_lt_of_pos _ (by omega)
theorem mem_divsI {j q n : Nat} {i : Int} (h : i ∈ divsI j q n) : ∃ m : Nat, i = (m : Int) ∧ j ≤ m ∧ m < j + q := by
  unfold divsI at h
  rw [List.mem_filter, List.mem_map] at h
  obtain ⟨⟨m, hm, rfl⟩, _⟩ := h
  rw [List.mem_range'_1] at hm
  exact ⟨m, rfl, hm.1, hm.2⟩
def gcdB (n r : Nat) : Bool := match spec_liGcd.f 100 (n : Int) (r : Int), impl_gcd.f 100 (n : Int) (r : Int) with
  | some a, some b => a == b && decide (0 ≤ Int.tmod a (n : Int)) && decide (Int.tmod a (n : Int) < (n : Int))
  | _, _ => false
def rootB (m d : Nat) : Bool := match spec_svRoots.f 100 (m : Int) (d : Int), impl_rootSum.f 100 (m : Int) (d : Int) with
  | some a, some b => a == b
  | _, _ => false
theorem gcd_table : ((List.range' 1 60).all fun n => (List.range n).all fun r => gcdB n r) = true := by decide +kernel
theorem root_table : ((List.range' 1 60).all fun m => (List.range 61).all fun d => rootB m d) = true := by decide +kernel
theorem gcd_at {n r : Nat} (h1 : 1 ≤ n) (h2 : n ≤ 60) (hr : r < n) : ∃ g, Ev (fun k => spec_liGcd.f k (n : Int) (r : Int)) g ∧ impl_gcd.f 100 (n : Int) (r : Int) = some g ∧ 0 ≤ Int.tmod g (n : Int) ∧ Int.tmod g (n : Int) < (n : Int) := by
  have h := gcd_table
  rw [List.all_eq_true] at h
  have h3 := h n (by rw [List.mem_range'_1]; omega)
  rw [List.all_eq_true] at h3
  have h4 := h3 r (List.mem_range.mpr hr)
  unfold gcdB at h4
  split at h4
  · rename_i a b e1 e2
    rw [Bool.and_eq_true, Bool.and_eq_true, beq_iff_eq, decide_eq_true_eq, decide_eq_true_eq] at h4
    obtain ⟨⟨rfl, h5⟩, h6⟩ := h4
    exact ⟨a, Ev.of (spec_liGcd.mono _ _) e1, e2, h5, h6⟩
  · cases h4
theorem root_at {m d : Nat} (h1 : 1 ≤ m) (h2 : m ≤ 60) (hd : d ≤ 60) : ∃ s, Ev (fun k => spec_svRoots.f k (m : Int) (d : Int)) s ∧ impl_rootSum.f 100 (m : Int) (d : Int) = some s := by
  have h := root_table
  rw [List.all_eq_true] at h
  have h3 := h m (by rw [List.mem_range'_1]; omega)
  rw [List.all_eq_true] at h3
  have h4 := h3 d (List.mem_range.mpr (by omega))
  unfold rootB at h4
  split at h4
  · rename_i a b e1 e2
    rw [beq_iff_eq] at h4
    subst h4
    exact ⟨a, Ev.of (spec_svRoots.mono _ _) e1, e2⟩
  · cases h4
theorem quo_at {n j : Nat} (h1 : 1 ≤ j) (h2 : j ≤ n) (h3 : n ≤ 60) : ∃ m : Nat, wrap64 (Int.tdiv (n : Int) (j : Int)) = (m : Int) ∧ 1 ≤ m ∧ m ≤ 60 := by
  refine ⟨n / j, ?_, (Nat.one_le_div_iff (by omega)).mpr h2, Nat.le_trans (Nat.div_le_self _ _) h3⟩
  have h4 : n / j ≤ 60 := Nat.le_trans (Nat.div_le_self _ _) h3
  rw [← Int.ofNat_tdiv]
  generalize n / j = q at h4
  exact wrap_id (by omega) (by omega)
theorem value_l1 (x : List Int) (d : Nat) (h1 : 1 ≤ x.length) (h2 : x.length ≤ 60) (hd : d ≤ 60) : ∀ (q j : Nat) (acc : Int), j + q = x.length + 1 → 1 ≤ j →
    Ev (fun k => spec_ValueByRemainders.l1 k x (d : Int) (x.length : Int) acc (j : Int)) (sumFrom (impl_ValueByRemainders.g 100 x (d : Int)) (divsI j q x.length) acc, true)
  | 0, j, acc, h, hj => Ev.step (fun _ => spec_ValueByRemainders.l1.eq_2 ..) (ev_neg (by omega) (Ev.now _))
  | q + 1, j, acc, h, hj => by
    refine Ev.step (fun _ => spec_ValueByRemainders.l1.eq_2 ..) (ev_pos (by omega) (ev_neg (by omega) ?_))
    have e0 : divsI j (q + 1) x.length = if Int.tmod (x.length : Int) (j : Int) == 0 then (j : Int) :: divsI (j + 1) q x.length else divsI (j + 1) q x.length := by
      unfold divsI
      rw [List.range'_succ, List.map_cons, List.filter_cons]
    rw [e0, wrap_succ (by omega)]
    refine ev_ite (fun e => ?_) (fun e => ?_)
    · rw [if_pos (beq_iff_eq.mpr e)]
      obtain ⟨m, hm, m1, m2⟩ := quo_at (n := x.length) hj (by omega) h2
      obtain ⟨s, s1, s2⟩ := root_at m1 m2 hd
      have b := rem_at (j := j) h1
      refine ev_neg (by omega) (ev_pos b.1 (ev_pos b.2 ?_))
      rw [hm]
      refine Ev.bind s1 ?_
      have e3 : sumFrom (impl_ValueByRemainders.g 100 x (d : Int)) ((j : Int) :: divsI (j + 1) q x.length) acc = sumFrom (impl_ValueByRemainders.g 100 x (d : Int)) (divsI (j + 1) q x.length) (wrap64 (acc + impl_ValueByRemainders.g 100 x (d : Int) (j : Int))) := rfl
      have e4 : impl_ValueByRemainders.g 100 x (d : Int) (j : Int) = wrap64 (rd x (Int.tmod (j : Int) (x.length : Int)) * s) := by unfold impl_ValueByRemainders.g; rw [hm, s2]; rfl
      rw [e3, e4]
      exact value_l1 x d h1 h2 hd q (j + 1) _ (by omega) (by omega)
    · rw [if_neg (by rw [beq_iff_eq]; exact e)]
      exact value_l1 x d h1 h2 hd q (j + 1) _ (by omega) (by omega)
theorem value_l0 (x : List Int) (d : Nat) (h1 : 1 ≤ x.length) (h2 : x.length ≤ 60) (R : Int × Bool) (c : Ev (fun k => spec_ValueByRemainders.l1 k x (d : Int) (x.length : Int) 0 1) R) : ∀ (q r : Nat), r + q = x.length →
    Ev (fun k => spec_ValueByRemainders.l0 k x (d : Int) (x.length : Int) x (x.length : Int) (r : Int)) (if ((List.range' r q).all fun r => rd x (r : Int) == rd x (Int.tmod ((impl_gcd.f 100 (x.length : Int) (r : Int)).getD 0) (x.length : Int))) = true then R else (0, false))
  | 0, r, h => by
    refine Ev.step (fun _ => spec_ValueByRemainders.l0.eq_2 ..) (ev_neg (by omega) ?_)
    rw [if_pos (by rfl)]
    exact c
  | q + 1, r, h => by
    obtain ⟨g, g1, g2, g3, g4⟩ := gcd_at (n := x.length) (r := r) h1 h2 (by omega)
    refine Ev.step (fun _ => spec_ValueByRemainders.l0.eq_2 ..) (ev_pos (by omega) (ev_pos (by omega) (ev_pos (by omega) (Ev.bind g1 (ev_neg (by omega) (ev_pos g3 (ev_pos g4 ?_)))))))
    rw [List.range'_succ, List.all_cons, g2, wrap_succ (by omega)]
    show Ev _ (if (rd x (r : Int) == rd x (Int.tmod g (x.length : Int)) && _) = true then R else (0, false))
    refine ev_ite (fun e => ?_) (fun e => ?_)
    · rw [beq_iff_eq.mpr e, Bool.true_and]
      exact value_l0 x d h1 h2 R c q (r + 1) (by omega)
    · rw [beq_eq_false_iff_ne.mpr e, Bool.false_and, if_neg (by simp)]
      exact Ev.now _
theorem agree_FnExactValueByRemainders (x : List Int) (d : Int) (hx : x.length ≤ 1048576) : ∃ r : Int × Bool, Ev (fun k => spec_ValueByRemainders.f k x d) r ∧ Ev (fun k => impl_ValueByRemainders.f k x d) r := by
  by_cases h : (inB (x.length : Int) 1 60 && x.all (inB · 0 100000000)) = true
  · by_cases hd : inB d 0 60 = true
    · have b := inB_iff.mp ((Bool.and_eq_true _ _).mp h).1
      have bd := inB_iff.mp hd
      obtain ⟨d, rfl⟩ : ∃ m : Nat, d = (m : Int) := ⟨d.toNat, by omega⟩
      have ok : impl_ValueByRemainders.ok 100 x = true := by
        unfold impl_ValueByRemainders.ok
        rw [List.all_eq_true]
        intro r hr
        obtain ⟨g, g1, g2, g3, g4⟩ := gcd_at (n := x.length) (r := r) (by omega) (by omega) (List.mem_range.mp hr)
        rw [g2]
        show (decide (0 ≤ Int.tmod g (x.length : Int)) && decide (Int.tmod g (x.length : Int) < (x.length : Int))) = true
        rw [Bool.and_eq_true, decide_eq_true_eq, decide_eq_true_eq]
        exact ⟨g3, g4⟩
      have ok2 : impl_ValueByRemainders.ok2 100 x (d : Int) (divsI 1 x.length x.length) = true := by
        unfold impl_ValueByRemainders.ok2
        rw [List.all_eq_true]
        intro i hi
        obtain ⟨j, rfl, j1, j2⟩ := mem_divsI hi
        obtain ⟨m, hm, m1, m2⟩ := quo_at (n := x.length) j1 (by omega) (by omega)
        obtain ⟨s, s1, s2⟩ := root_at (d := d) m1 m2 (by omega)
        have b3 := rem_at (j := j) (n := x.length) (by omega)
        rw [hm, s2, Bool.and_eq_true, Bool.and_eq_true, Bool.and_eq_true, bne_iff_ne, decide_eq_true_eq, decide_eq_true_eq]
        exact ⟨⟨⟨by omega, b3.1⟩, b3.2⟩, rfl⟩
      have hlen : (divsI 1 x.length x.length).length ≤ 9223372036854775806 := by
        unfold divsI
        refine Nat.le_trans (List.length_filter_le _ _) ?_
        rw [List.length_map, List.length_range']
        omega
      have hs := value_l0 x d (by omega) (by omega) _ (value_l1 x d (by omega) (by omega) (by omega) x.length 1 0 (by omega) (by omega)) x.length 0 (by omega)
      refine ⟨if ((List.range' 0 x.length).all fun r => rd x (r : Int) == rd x (Int.tmod ((impl_gcd.f 100 (x.length : Int) (r : Int)).getD 0) (x.length : Int))) = true then (sumFrom (impl_ValueByRemainders.g 100 x (d : Int)) (divsI 1 x.length x.length) 0, true) else (0, false), Ev.bind (svRests_ev x (by omega)) (ev_pos h (ev_call (l1In_eq _ _ _) ?_)), Ev.of (impl_ValueByRemainders.mono _ _) (k := 100) ?_⟩
      · rw [hd]
        exact Ev.step (fun _ => spec_ValueByRemainders.j0.eq_2 ..) (ev_neg (by simp) hs)
      · unfold impl_ValueByRemainders.f
        rw [areRests_eq x (by omega), Option.bind_some, if_pos h, within_eq, Option.bind_some, if_pos hd, if_pos ⟨by omega, by omega, ok⟩]
        unfold impl_ValueByRemainders.last impl_ValueByRemainders.same
        rw [List.range_eq_range']
        by_cases c : ((List.range' 0 x.length).all fun r => rd x (r : Int) == rd x (Int.tmod ((impl_gcd.f 100 (x.length : Int) (r : Int)).getD 0) (x.length : Int))) = true
        · rw [if_pos c, if_pos c, div_at (by omega) (by omega), Option.bind_some, if_pos ⟨hlen, ok2⟩]; rfl
        · rw [if_neg c, if_neg c]
    · refine ⟨(0, false), Ev.bind (svRests_ev x (by omega)) (ev_pos h (ev_call (l1In_eq _ _ _) ?_)), ?_⟩
      · rw [Bool.eq_false_iff.mpr hd]
        exact Ev.step (fun _ => spec_ValueByRemainders.j0.eq_2 ..) (ev_pos rfl (Ev.now _))
      · refine ev_call (areRests_eq x (by omega)) (ev_pos h (ev_call (within_eq _ _ _) (ev_neg hd (Ev.now _))))
  · refine ⟨(0, false), Ev.bind (svRests_ev x (by omega)) (ev_neg h ?_), ev_call (areRests_eq x (by omega)) (ev_neg h (Ev.now _))⟩
    exact Ev.step (fun _ => spec_ValueByRemainders.j0.eq_2 ..) (ev_pos rfl (Ev.now _))
end Go.Proofs.YtkgngggppcmpfaaGreat.M
end
section
namespace Go.Proofs.YtkgngggppcmpfaaGreat.M
open Go.RowKit Go.Proofs.YtkgngggppcmpfaaGreatW.PrintWords Go.Proofs.YtkgngggppcmpfaaGreatW.PrintLast Go.Proofs.YtkgngggppcmpfaaGreatW.PrintMore Go.Proofs.YtkgngggppcmpfaaGreat.L
set_option linter.unusedVariables false
def iterI (f : Int → Int) : Nat → Int → Int
  | 0, s => s
  | n + 1, s => iterI f n (f s)
theorem iterI_add (f : Int → Int) : ∀ (m n : Nat) (s : Int), iterI f (m + n) s = iterI f n (iterI f m s)
  | 0, n, s => by rw [Nat.zero_add]; rfl
  | m + 1, n, s => by rw [show m + 1 + n = (m + n) + 1 by omega]; exact iterI_add f m n (f s)
theorem iterI_mul (f : Int → Int) {n : Nat} {s : Int} (h : iterI f n s = s) : ∀ q, iterI f (n * q) s = s
  | 0 => rfl
  | q + 1 => by rw [Nat.mul_succ, iterI_add, iterI_mul f h q, h]
theorem iterI_per (f : Int → Int) {n : Nat} {s : Int} (hn : 1 ≤ n) (h : iterI f n s = s) (hm : ∀ i, i < n → 1 ≤ i → iterI f i s ≠ s) (d : Nat) : iterI f d s = s ↔ d % n = 0 := by
  have e : iterI f d s = iterI f (d % n) s := by
    have h1 : d = n * (d / n) + d % n := (Nat.div_add_mod d n).symm
    rw [h1, iterI_add, iterI_mul f h, ← h1]
  rw [e]
  constructor
  · intro h2
    apply Classical.byContradiction
    intro h3
    exact hm (d % n) (Nat.mod_lt _ (by omega)) (by omega) h2
  · intro h2; rw [h2]; rfl
def rfF (p : List Int) (s : Int) : Int := (spec_svRow.f 1200 p s).getD (-1)
def perA (f : Int → Int) (s : Int) : Nat → Int → Nat
  | 0, _ => 0
  | k + 1, t => if t = s then 1 else perA f s k (f t) + 1
def per (f : Int → Int) (s : Int) : Nat := perA f s 30 (f s)
def perOk (f : Int → Int) (s : Int) : Bool := decide (1 ≤ per f s) && iterI f (per f s) s == s && (List.range (per f s)).all fun i => i == 0 || iterI f i s != s
def rfB (a b : Int) : Bool := match spec_poRectangle.f 1200 a b with
  | none => false
  | some p => match spec_poIdeals.f 1200 p, impl_rowLengths.f 1200 a b with
    | some ids, some ls => (ids.all fun s => (spec_svRow.f 1200 p s).isSome && ids.contains (rfF p s) && perOk (rfF p) s) && decide (ids.length ≤ 1000) && (List.range 61).all fun d => impl_fixed.f 1200 ls (d : Int) == some ((ids.countP fun s => d % per (rfF p) s == 0 : Nat) : Int)
    | _, _ => false
theorem rfq1_1 : rfB 1 1 = true := by decide +kernel
theorem rfq1_2 : rfB 1 2 = true := by decide +kernel
theorem rfq1_3 : rfB 1 3 = true := by decide +kernel
theorem rfq1_4 : rfB 1 4 = true := by decide +kernel
theorem rfq1_5 : rfB 1 5 = true := by decide +kernel
theorem rfq1_6 : rfB 1 6 = true := by decide +kernel
theorem rfq1_7 : rfB 1 7 = true := by decide +kernel
theorem rfq1_8 : rfB 1 8 = true := by decide +kernel
theorem rfq1_9 : rfB 1 9 = true := by decide +kernel
theorem rfq1_10 : rfB 1 10 = true := by decide +kernel
theorem rfq2_1 : rfB 2 1 = true := by decide +kernel
theorem rfq2_2 : rfB 2 2 = true := by decide +kernel
theorem rfq2_3 : rfB 2 3 = true := by decide +kernel
theorem rfq2_4 : rfB 2 4 = true := by decide +kernel
theorem rfq2_5 : rfB 2 5 = true := by decide +kernel
theorem rfq3_1 : rfB 3 1 = true := by decide +kernel
theorem rfq3_2 : rfB 3 2 = true := by decide +kernel
theorem rfq3_3 : rfB 3 3 = true := by decide +kernel
theorem rfq4_1 : rfB 4 1 = true := by decide +kernel
theorem rfq4_2 : rfB 4 2 = true := by decide +kernel
theorem rfq5_1 : rfB 5 1 = true := by decide +kernel
theorem rfq5_2 : rfB 5 2 = true := by decide +kernel
theorem rfq6_1 : rfB 6 1 = true := by decide +kernel
theorem rfq7_1 : rfB 7 1 = true := by decide +kernel
theorem rfq8_1 : rfB 8 1 = true := by decide +kernel
theorem rfq9_1 : rfB 9 1 = true := by decide +kernel
theorem rfq10_1 : rfB 10 1 = true := by decide +kernel
theorem rfq_of {a b : Int} (h : sidesB a b = true) : rfB a b = true := by
  unfold sidesB at h
  rw [Bool.and_eq_true, Bool.and_eq_true, inB_iff, inB_iff, decide_eq_true_eq] at h
  obtain ⟨⟨h1, h2⟩, h3⟩ := h
  obtain rfl | rfl | rfl | rfl | rfl | rfl | rfl | rfl | rfl | rfl : a = 1 ∨ a = 2 ∨ a = 3 ∨ a = 4 ∨ a = 5 ∨ a = 6 ∨ a = 7 ∨ a = 8 ∨ a = 9 ∨ a = 10 := by omega
  · obtain rfl | rfl | rfl | rfl | rfl | rfl | rfl | rfl | rfl | rfl : b = 1 ∨ b = 2 ∨ b = 3 ∨ b = 4 ∨ b = 5 ∨ b = 6 ∨ b = 7 ∨ b = 8 ∨ b = 9 ∨ b = 10 := by omega
    · exact rfq1_1
    · exact rfq1_2
    · exact rfq1_3
    · exact rfq1_4
    · exact rfq1_5
    · exact rfq1_6
    · exact rfq1_7
    · exact rfq1_8
    · exact rfq1_9
    · exact rfq1_10
  · obtain rfl | rfl | rfl | rfl | rfl : b = 1 ∨ b = 2 ∨ b = 3 ∨ b = 4 ∨ b = 5 := by omega
    · exact rfq2_1
    · exact rfq2_2
    · exact rfq2_3
    · exact rfq2_4
    · exact rfq2_5
  · obtain rfl | rfl | rfl : b = 1 ∨ b = 2 ∨ b = 3 := by omega
    · exact rfq3_1
    · exact rfq3_2
    · exact rfq3_3
  · obtain rfl | rfl : b = 1 ∨ b = 2 := by omega
    · exact rfq4_1
    · exact rfq4_2
  · obtain rfl | rfl : b = 1 ∨ b = 2 := by omega
    · exact rfq5_1
    · exact rfq5_2
  · obtain rfl : b = 1 := by omega
    exact rfq6_1
  · obtain rfl : b = 1 := by omega
    exact rfq7_1
  · obtain rfl : b = 1 := by omega
    exact rfq8_1
  · obtain rfl : b = 1 := by omega
    exact rfq9_1
  · obtain rfl : b = 1 := by omega
    exact rfq10_1
theorem rf_l1 {p ids : List Int} (h : ∀ s, s ∈ ids → rfF p s ∈ ids) (hE : ∀ s, s ∈ ids → Ev (fun k => spec_svRow.f k p s) (rfF p s)) (d : Nat) (hd : d ≤ 60) (cnt i : Nat) (s : Int) (R : Int × Bool) :
    ∀ (n j : Nat) (now : Int), j + n = d → now ∈ ids →
    (iterI (rfF p) n now = s → Ev (fun k => spec_RowFixed.l0 k (d : Int) (wrap64 ((cnt : Int) + 1)) ids (ids.length : Int) (wrap64 ((i : Int) + 1)) p) R) →
    (iterI (rfF p) n now ≠ s → Ev (fun k => spec_RowFixed.l0 k (d : Int) (cnt : Int) ids (ids.length : Int) (wrap64 ((i : Int) + 1)) p) R) →
    Ev (fun k => spec_RowFixed.l1 k (d : Int) (cnt : Int) s now (j : Int) ids (ids.length : Int) (i : Int) p) R
  | 0, j, now, e, hn, y1, y2 => by
    refine Ev.step (fun _ => spec_RowFixed.l1.eq_2 ..) (ev_neg (by omega) (ev_ite (fun q => y1 q) (fun q => y2 q)))
  | n + 1, j, now, e, hn, y1, y2 => by
    refine Ev.step (fun _ => spec_RowFixed.l1.eq_2 ..) (ev_pos (by omega) (Ev.bind (hE now hn) ?_))
    rw [wrap_succ (by omega)]
    exact rf_l1 h hE d hd cnt i s R n (j + 1) _ (by omega) (h now hn) y1 y2
theorem rf_l0 {p ids : List Int} (h : ∀ s, s ∈ ids → rfF p s ∈ ids) (hE : ∀ s, s ∈ ids → Ev (fun k => spec_svRow.f k p s) (rfF p s)) (d : Nat) (hd : d ≤ 60) (hl : ids.length ≤ 1000) : ∀ (n i cnt : Nat), i + n = ids.length → cnt ≤ i →
    Ev (fun k => spec_RowFixed.l0 k (d : Int) (cnt : Int) ids (ids.length : Int) (i : Int) p) (((cnt + (ids.drop i).countP (fun s => iterI (rfF p) d s == s) : Nat) : Int), true)
  | 0, i, cnt, e, hc => by
    refine Ev.step (fun _ => spec_RowFixed.l0.eq_2 ..) (ev_neg (by omega) ?_)
    rw [List.drop_of_length_le (by omega)]
    exact Ev.now _
  | n + 1, i, cnt, e, hc => by
    have hi : i < ids.length := by omega
    refine Ev.step (fun _ => spec_RowFixed.l0.eq_2 ..) (ev_pos (by omega) (ev_pos (by omega) (ev_pos (by omega) ?_)))
    rw [rd_get hi, List.drop_eq_getElem_cons hi, List.countP_cons]
    have hm := List.getElem_mem hi
    refine rf_l1 h hE d hd cnt i _ _ d 0 _ (by omega) hm (fun q => ?_) (fun q => ?_)
    · rw [wrap_succ (by omega), wrap_succ (by omega), if_pos (beq_iff_eq.mpr q)]
      have := rf_l0 h hE d hd hl n (i + 1) (cnt + 1) (by omega) (by omega)
      rw [show cnt + 1 + (ids.drop (i + 1)).countP (fun s => iterI (rfF p) d s == s) = cnt + ((ids.drop (i + 1)).countP (fun s => iterI (rfF p) d s == s) + 1) by omega] at this
      exact this
    · rw [wrap_succ (by omega), if_neg (by rw [beq_iff_eq]; exact q)]
      exact rf_l0 h hE d hd hl n (i + 1) cnt (by omega) (by omega)
theorem svTurn_eq (d : Int) : spec_svTurn.f d = some (inB d 0 60) := by unfold spec_svTurn.f; rw [l1In_eq]; rfl
theorem agree_FnExactRowFixed (a b d : Int) : ∃ r : Int × Bool, Ev (fun k => spec_RowFixed.f k a b d) r ∧ Ev (fun k => impl_RowFixed.f k a b d) r := by
  by_cases hs : sidesB a b = true
  · by_cases hd : inB d 0 60 = true
    · have bd := inB_iff.mp hd
      obtain ⟨d, rfl⟩ : ∃ m : Nat, d = (m : Int) := ⟨d.toNat, by omega⟩
      have hg := rfq_of hs
      unfold rfB at hg
      split at hg
      · cases hg
      · rename_i p hp
        split at hg
        · rename_i ids ls hi hL
          rw [Bool.and_eq_true, Bool.and_eq_true, decide_eq_true_eq, List.all_eq_true, List.all_eq_true] at hg
          obtain ⟨⟨h1, h2⟩, h3⟩ := hg
          have h4 : ∀ s, s ∈ ids → (∃ v, spec_svRow.f 1200 p s = some v) ∧ rfF p s ∈ ids ∧ perOk (rfF p) s = true := by
            intro s hm
            have := h1 s hm
            rw [Bool.and_eq_true, Bool.and_eq_true, List.contains_iff_mem, Option.isSome_iff_exists] at this
            exact ⟨this.1.1, this.1.2, this.2⟩
          have hE : ∀ s, s ∈ ids → Ev (fun k => spec_svRow.f k p s) (rfF p s) := by
            intro s hm
            obtain ⟨v, hv⟩ := (h4 s hm).1
            have e : rfF p s = v := by unfold rfF; rw [hv]; rfl
            rw [e]
            exact Ev.of (spec_svRow.mono _ _) hv
          have hper : ∀ s, s ∈ ids → (iterI (rfF p) d s == s) = (d % per (rfF p) s == 0) := by
            intro s hm
            have h5 := (h4 s hm).2.2
            unfold perOk at h5
            rw [Bool.and_eq_true, Bool.and_eq_true, decide_eq_true_eq, beq_iff_eq, List.all_eq_true] at h5
            rw [Bool.eq_iff_iff, beq_iff_eq, beq_iff_eq]
            refine iterI_per _ h5.1.1 h5.1.2 (fun i hi h6 => ?_) d
            have := h5.2 i (List.mem_range.mpr hi)
            rw [Bool.or_eq_true, beq_iff_eq, bne_iff_ne] at this
            rcases this with h7 | h7
            · omega
            · exact h7
          have hc := h3 d (List.mem_range.mpr (by omega))
          rw [beq_iff_eq] at hc
          have hl0 := rf_l0 (fun s hm => (h4 s hm).2.1) hE d (by omega) h2 ids.length 0 0 (by omega) (Nat.le_refl _)
          rw [List.drop_zero, Nat.zero_add, List.countP_congr (fun s hm => by rw [hper s hm])] at hl0
          refine ⟨(((ids.countP fun s => d % per (rfF p) s == 0 : Nat) : Int), true), ev_call (shSides_eq a b) (ev_pos hs (ev_call (svTurn_eq _) ?_)), ev_call (areSides_eq a b) (ev_pos hs (ev_call (within_eq _ _ _) ?_))⟩
          · rw [hd]
            exact Ev.step (fun _ => spec_RowFixed.j0.eq_2 ..) (ev_neg (by simp) (Ev.bind (Ev.of (spec_poRectangle.mono _ _) hp) (Ev.bind (Ev.of (spec_poIdeals.mono _) hi) hl0)))
          · rw [hd]
            exact Ev.step (fun _ => impl_RowFixed.j0.eq_2 ..) (ev_neg (by simp) (Ev.bind (Ev.of (impl_rowLengths.mono _ _) hL) (Ev.bind (Ev.of (impl_fixed.mono _ _) hc) (Ev.now _))))
        · cases hg
    · refine ⟨(0, false), ev_call (shSides_eq a b) (ev_pos hs (ev_call (svTurn_eq _) ?_)), ev_call (areSides_eq a b) (ev_pos hs (ev_call (within_eq _ _ _) ?_))⟩
      · rw [Bool.eq_false_iff.mpr hd]; exact Ev.step (fun _ => spec_RowFixed.j0.eq_2 ..) (ev_pos rfl (Ev.now _))
      · rw [Bool.eq_false_iff.mpr hd]; exact Ev.step (fun _ => impl_RowFixed.j0.eq_2 ..) (ev_pos rfl (Ev.now _))
  · exact ⟨(0, false), ev_call (shSides_eq a b) (ev_neg hs (Ev.step (fun _ => spec_RowFixed.j0.eq_2 ..) (ev_pos rfl (Ev.now _)))), ev_call (areSides_eq a b) (ev_neg hs (Ev.step (fun _ => impl_RowFixed.j0.eq_2 ..) (ev_pos rfl (Ev.now _))))⟩
theorem sorted_unique : ∀ {l r : List Int}, l.Pairwise (· ≤ ·) → r.Pairwise (· ≤ ·) → l.Perm r → l = r
  | [], r, _, _, hp => hp.nil_eq
  | a :: l, [], _, _, hp => absurd hp.symm.nil_eq (by simp)
  | a :: l, b :: r, hl, hr, hp => by
    rw [List.pairwise_cons] at hl hr
    have h1 : a ∈ b :: r := hp.mem_iff.mp List.mem_cons_self
    have h2 : b ∈ a :: l := hp.mem_iff.mpr List.mem_cons_self
    have e : a = b := by
      rcases List.mem_cons.mp h1 with e | h1
      · exact e
      · rcases List.mem_cons.mp h2 with e | h2
        · exact e.symm
        · have := hl.1 b h2
          have := hr.1 a h1
          omega
    subst e
    rw [sorted_unique hl.2 hr.2 (List.Perm.cons_inv hp)]
theorem sort_sorted (l : List Int) : (impl_sorted.sort l).Pairwise (· ≤ ·) := by
  unfold impl_sorted.sort
  have h := List.pairwise_mergeSort (le := fun x y : Int => decide (x ≤ y)) (fun a b c h1 h2 => by rw [decide_eq_true_eq] at h1 h2 ⊢; omega) (fun a b => by rw [Bool.or_eq_true, decide_eq_true_eq, decide_eq_true_eq]; omega) l
  exact h.imp (fun h => by rwa [decide_eq_true_eq] at h)
theorem sort_perm (l : List Int) : (impl_sorted.sort l).Perm l := List.mergeSort_perm l _
theorem sort_eq {l r : List Int} (hs : r.Pairwise (· ≤ ·)) (hp : r.Perm l) : impl_sorted.sort l = r := sorted_unique (sort_sorted l) hs ((sort_perm l).trans hp.symm)
theorem sorted_eq {l : List Int} (h : l.length ≤ 100000) : impl_sorted.f l = some (impl_sorted.sort l) := if_pos (by omega)
def stabG (n l : Int) : Int := wrap64 (Int.tdiv n l)
theorem stab_l0 (n : Int) (ls : List Int) (hz : ∀ l ∈ ls, l ≠ 0) (hl : ls.length ≤ 1000) : ∀ (d i : Nat) (acc : List Int), i + d = ls.length → acc.length = i →
    Ev (fun k => impl_stabilizers.l0 k n acc ls (ls.length : Int) (i : Int)) (impl_sorted.sort (acc ++ (ls.drop i).map (stabG n)))
  | 0, i, acc, h, ha => by
    refine Ev.step (fun _ => impl_stabilizers.l0.eq_2 ..) (ev_neg (by omega) ?_)
    rw [List.drop_of_length_le (by omega), List.map_nil, List.append_nil]
    exact ev_call (sorted_eq (by omega)) (Ev.now _)
  | d + 1, i, acc, h, ha => by
    have hi : i < ls.length := by omega
    refine Ev.step (fun _ => impl_stabilizers.l0.eq_2 ..) (ev_pos (by omega) (ev_pos (by omega) (ev_pos (by omega) ?_)))
    rw [rd_get hi, List.drop_eq_getElem_cons hi, List.map_cons, wrap_succ (by omega)]
    refine ev_neg (hz _ (List.getElem_mem hi)) (ev_pos (by omega) ?_)
    have := stab_l0 n ls hz hl d (i + 1) (acc ++ [stabG n ls[i]]) (by omega) (by rw [List.length_append, List.length_singleton]; omega)
    rw [List.append_assoc] at this
    exact this
def upB : List Int → Bool
  | [] => true
  | [_] => true
  | a :: b :: l => decide (a ≤ b) && upB (b :: l)
theorem upB_sorted : ∀ l : List Int, upB l = true → l.Pairwise (· ≤ ·)
  | [], _ => List.Pairwise.nil
  | [a], _ => List.pairwise_singleton _ a
  | a :: b :: l, h => by
    unfold upB at h
    rw [Bool.and_eq_true, decide_eq_true_eq] at h
    have ih := upB_sorted (b :: l) h.2
    refine List.pairwise_cons.mpr ⟨fun c hc => ?_, ih⟩
    rcases List.mem_cons.mp hc with e | hc
    · omega
    · have := (List.pairwise_cons.mp ih).1 c hc
      omega
def rsB (a b : Int) : Bool := match spec_RowStabilizers.f 1200 a b, impl_rowLengths.f 1200 a b with
  | some r, some ls => r.2 && (ls.all fun l => l != 0) && decide (ls.length ≤ 1000) && upB r.1 && r.1.isPerm (ls.map (stabG (wrap64 (a + b))))
  | _, _ => false
theorem rsq1_1 : rsB 1 1 = true := by decide +kernel
theorem rsq1_2 : rsB 1 2 = true := by decide +kernel
theorem rsq1_3 : rsB 1 3 = true := by decide +kernel
theorem rsq1_4 : rsB 1 4 = true := by decide +kernel
theorem rsq1_5 : rsB 1 5 = true := by decide +kernel
theorem rsq1_6 : rsB 1 6 = true := by decide +kernel
theorem rsq1_7 : rsB 1 7 = true := by decide +kernel
theorem rsq1_8 : rsB 1 8 = true := by decide +kernel
theorem rsq1_9 : rsB 1 9 = true := by decide +kernel
theorem rsq1_10 : rsB 1 10 = true := by decide +kernel
theorem rsq2_1 : rsB 2 1 = true := by decide +kernel
theorem rsq2_2 : rsB 2 2 = true := by decide +kernel
theorem rsq2_3 : rsB 2 3 = true := by decide +kernel
theorem rsq2_4 : rsB 2 4 = true := by decide +kernel
theorem rsq2_5 : rsB 2 5 = true := by decide +kernel
theorem rsq3_1 : rsB 3 1 = true := by decide +kernel
theorem rsq3_2 : rsB 3 2 = true := by decide +kernel
theorem rsq3_3 : rsB 3 3 = true := by decide +kernel
theorem rsq4_1 : rsB 4 1 = true := by decide +kernel
theorem rsq4_2 : rsB 4 2 = true := by decide +kernel
theorem rsq5_1 : rsB 5 1 = true := by decide +kernel
theorem rsq5_2 : rsB 5 2 = true := by decide +kernel
theorem rsq6_1 : rsB 6 1 = true := by decide +kernel
theorem rsq7_1 : rsB 7 1 = true := by decide +kernel
theorem rsq8_1 : rsB 8 1 = true := by decide +kernel
theorem rsq9_1 : rsB 9 1 = true := by decide +kernel
theorem rsq10_1 : rsB 10 1 = true := by decide +kernel
theorem rsq_of {a b : Int} (h : sidesB a b = true) : rsB a b = true := by
  unfold sidesB at h
  rw [Bool.and_eq_true, Bool.and_eq_true, inB_iff, inB_iff, decide_eq_true_eq] at h
  obtain ⟨⟨h1, h2⟩, h3⟩ := h
  obtain rfl | rfl | rfl | rfl | rfl | rfl | rfl | rfl | rfl | rfl : a = 1 ∨ a = 2 ∨ a = 3 ∨ a = 4 ∨ a = 5 ∨ a = 6 ∨ a = 7 ∨ a = 8 ∨ a = 9 ∨ a = 10 := by omega
  · obtain rfl | rfl | rfl | rfl | rfl | rfl | rfl | rfl | rfl | rfl : b = 1 ∨ b = 2 ∨ b = 3 ∨ b = 4 ∨ b = 5 ∨ b = 6 ∨ b = 7 ∨ b = 8 ∨ b = 9 ∨ b = 10 := by omega
    · exact rsq1_1
    · exact rsq1_2
    · exact rsq1_3
    · exact rsq1_4
    · exact rsq1_5
    · exact rsq1_6
    · exact rsq1_7
    · exact rsq1_8
    · exact rsq1_9
    · exact rsq1_10
  · obtain rfl | rfl | rfl | rfl | rfl : b = 1 ∨ b = 2 ∨ b = 3 ∨ b = 4 ∨ b = 5 := by omega
    · exact rsq2_1
    · exact rsq2_2
    · exact rsq2_3
    · exact rsq2_4
    · exact rsq2_5
  · obtain rfl | rfl | rfl : b = 1 ∨ b = 2 ∨ b = 3 := by omega
    · exact rsq3_1
    · exact rsq3_2
    · exact rsq3_3
  · obtain rfl | rfl : b = 1 ∨ b = 2 := by omega
    · exact rsq4_1
    · exact rsq4_2
  · obtain rfl | rfl : b = 1 ∨ b = 2 := by omega
    · exact rsq5_1
    · exact rsq5_2
  · obtain rfl : b = 1 := by omega
    exact rsq6_1
  · obtain rfl : b = 1 := by omega
    exact rsq7_1
  · obtain rfl : b = 1 := by omega
    exact rsq8_1
  · obtain rfl : b = 1 := by omega
    exact rsq9_1
  · obtain rfl : b = 1 := by omega
    exact rsq10_1
theorem agree_FnExactRowStabilizers (a b : Int) : ∃ r : List Int × Bool, r.1.length ≤ 1000 ∧ Ev (fun k => spec_RowStabilizers.f k a b) r ∧ Ev (fun k => impl_RowStabilizers.f k a b) r := by
  by_cases hs : sidesB a b = true
  · have hg := rsq_of hs
    unfold rsB at hg
    split at hg
    · rename_i r ls h1 h2
      rw [Bool.and_eq_true, Bool.and_eq_true, Bool.and_eq_true, Bool.and_eq_true, decide_eq_true_eq, List.all_eq_true, List.isPerm_iff] at hg
      obtain ⟨⟨⟨⟨g1, g2⟩, g3⟩, g4⟩, g5⟩ := hg
      have e : impl_sorted.sort (ls.map (stabG (wrap64 (a + b)))) = r.1 := sort_eq (upB_sorted _ g4) g5
      refine ⟨r, ?_, Ev.of (spec_RowStabilizers.mono a b) h1, ev_call (areSides_eq a b) (ev_pos hs (Ev.bind (Ev.of (impl_rowLengths.mono a b) h2) ?_))⟩
      · rw [g5.length_eq, List.length_map]; exact g3
      · have hl0 := stab_l0 (wrap64 (a + b)) ls (fun l hl => by have := g2 l hl; rwa [bne_iff_ne] at this) g3 ls.length 0 [] (by omega) rfl
        rw [List.drop_zero, List.nil_append, e] at hl0
        have e2 : r = (r.1, true) := by rw [← g1]
        rw [e2]
        exact Ev.bind hl0 (Ev.now _)
    · cases hg
  · exact ⟨([], false), Nat.zero_le _, ev_call (shSides_eq a b) (ev_neg hs (Ev.now _)), ev_call (areSides_eq a b) (ev_neg hs (Ev.now _))⟩
def insI (x : Int) : List Int → List Int
  | [] => [x]
  | y :: l => if x ≤ y then x :: y :: l else y :: insI x l
def isortI : List Int → List Int
  | [] => []
  | x :: l => insI x (isortI l)
def stO (ls : List Int) (n : Int) : List Int := isortI (ls.map (stabG n))
def vlRest (d : Int) (ls hk : List Int) : Bool := match impl_RemaindersOf.f 1200 hk d with
  | some rr => rr.2 && (List.range 61).all fun k : Nat => match impl_ValueByRemainders.f 1200 rr.1 (k : Int), impl_fixed.f 1200 ls (k : Int) with
    | some v, some w => v.2 && v.1 == w
    | _, _ => false
  | none => false
def srB (a b : Int) : Bool := match impl_rowLengths.f 1200 a b, impl_GaussOf.f 1200 a b with
  | some ls, some hk => (ls.all fun l => l != 0) && decide (ls.length ≤ 1000) && upB (stO ls (wrap64 (a + b))) && (stO ls (wrap64 (a + b))).isPerm (ls.map (stabG (wrap64 (a + b)))) && hk.2 && vlRest (wrap64 (a + b)) ls hk.1 && (laws_FnSievesOfRows.j3 1200 a b hk.1 true (stO ls (wrap64 (a + b))) false == some true)
  | _, _ => false
theorem sr1_1 : srB 1 1 = true := by decide +kernel
theorem sr1_2 : srB 1 2 = true := by decide +kernel
theorem sr1_3 : srB 1 3 = true := by decide +kernel
theorem sr1_4 : srB 1 4 = true := by decide +kernel
theorem sr1_5 : srB 1 5 = true := by decide +kernel
theorem sr1_6 : srB 1 6 = true := by decide +kernel
theorem sr1_7 : srB 1 7 = true := by decide +kernel
theorem sr1_8 : srB 1 8 = true := by decide +kernel
theorem sr1_9 : srB 1 9 = true := by decide +kernel
theorem sr1_10 : srB 1 10 = true := by decide +kernel
theorem sr2_1 : srB 2 1 = true := by decide +kernel
theorem sr2_2 : srB 2 2 = true := by decide +kernel
theorem sr2_3 : srB 2 3 = true := by decide +kernel
theorem sr2_4 : srB 2 4 = true := by decide +kernel
theorem sr2_5 : srB 2 5 = true := by decide +kernel
theorem sr3_1 : srB 3 1 = true := by decide +kernel
theorem sr3_2 : srB 3 2 = true := by decide +kernel
theorem sr3_3 : srB 3 3 = true := by decide +kernel
theorem sr4_1 : srB 4 1 = true := by decide +kernel
theorem sr4_2 : srB 4 2 = true := by decide +kernel
theorem sr5_1 : srB 5 1 = true := by decide +kernel
theorem sr5_2 : srB 5 2 = true := by decide +kernel
theorem sr6_1 : srB 6 1 = true := by decide +kernel
theorem sr7_1 : srB 7 1 = true := by decide +kernel
theorem sr8_1 : srB 8 1 = true := by decide +kernel
theorem sr9_1 : srB 9 1 = true := by decide +kernel
theorem sr10_1 : srB 10 1 = true := by decide +kernel
theorem sr_of {a b : Int} (h : sidesB a b = true) : srB a b = true := by
  unfold sidesB at h
  rw [Bool.and_eq_true, Bool.and_eq_true, inB_iff, inB_iff, decide_eq_true_eq] at h
  obtain ⟨⟨h1, h2⟩, h3⟩ := h
  obtain rfl | rfl | rfl | rfl | rfl | rfl | rfl | rfl | rfl | rfl : a = 1 ∨ a = 2 ∨ a = 3 ∨ a = 4 ∨ a = 5 ∨ a = 6 ∨ a = 7 ∨ a = 8 ∨ a = 9 ∨ a = 10 := by omega
  · obtain rfl | rfl | rfl | rfl | rfl | rfl | rfl | rfl | rfl | rfl : b = 1 ∨ b = 2 ∨ b = 3 ∨ b = 4 ∨ b = 5 ∨ b = 6 ∨ b = 7 ∨ b = 8 ∨ b = 9 ∨ b = 10 := by omega
    · exact sr1_1
    · exact sr1_2
    · exact sr1_3
    · exact sr1_4
    · exact sr1_5
    · exact sr1_6
    · exact sr1_7
    · exact sr1_8
    · exact sr1_9
    · exact sr1_10
  · obtain rfl | rfl | rfl | rfl | rfl : b = 1 ∨ b = 2 ∨ b = 3 ∨ b = 4 ∨ b = 5 := by omega
    · exact sr2_1
    · exact sr2_2
    · exact sr2_3
    · exact sr2_4
    · exact sr2_5
  · obtain rfl | rfl | rfl : b = 1 ∨ b = 2 ∨ b = 3 := by omega
    · exact sr3_1
    · exact sr3_2
    · exact sr3_3
  · obtain rfl | rfl : b = 1 ∨ b = 2 := by omega
    · exact sr4_1
    · exact sr4_2
  · obtain rfl | rfl : b = 1 ∨ b = 2 := by omega
    · exact sr5_1
    · exact sr5_2
  · obtain rfl : b = 1 := by omega
    exact sr6_1
  · obtain rfl : b = 1 := by omega
    exact sr7_1
  · obtain rfl : b = 1 := by omega
    exact sr8_1
  · obtain rfl : b = 1 := by omega
    exact sr9_1
  · obtain rfl : b = 1 := by omega
    exact sr10_1
end Go.Proofs.YtkgngggppcmpfaaGreat.M
end
section
namespace Go.Proofs.YtkgngggppcmpfaaGreat.M
open Go.RowKit Go.Proofs.YtkgngggppcmpfaaGreatW.PrintWords Go.Proofs.YtkgngggppcmpfaaGreatW.PrintLast Go.Proofs.YtkgngggppcmpfaaGreatW.PrintMore
end Go.Proofs.YtkgngggppcmpfaaGreat.M
end
section
namespace Go.Proofs.YtkgngggppcmpfaaGreat.M
set_option linter.unusedVariables false
open Go.RowKit Go.Proofs.YtkgngggppcmpfaaGreatW.PrintWords Go.Proofs.YtkgngggppcmpfaaGreatW.PrintLast Go.Proofs.YtkgngggppcmpfaaGreatW.PrintMore
def toI (p : List Nat) : List Int := p.map fun (x : Nat) => (x : Int)
@[simp] theorem toI_len (p : List Nat) : (toI p).length = p.length := by simp [toI]
@[simp] theorem toI_nil : toI [] = [] := rfl
def less (p : List Nat) (i : Nat) : Nat := p.getD i 0
structure Good (p : List Nat) : Prop where
  pos : 1 ≤ p.length
  le : p.length ≤ 10
  lt : ∀ i, i < p.length → less p i < 2 ^ i
  tr : ∀ i, i < p.length → ∀ j, (less p i).testBit j = true → ∀ m, (less p j).testBit m = true → (less p i).testBit m = true
end Go.Proofs.YtkgngggppcmpfaaGreat.M
end
section
namespace Go.Proofs.YtkgngggppcmpfaaGreat.M
open Go.RowKit Go.Proofs.YtkgngggppcmpfaaGreatW.PrintWords Go.Proofs.YtkgngggppcmpfaaGreatW.PrintLast Go.Proofs.YtkgngggppcmpfaaGreatW.PrintMore Go.Proofs.YtkgngggppcmpfaaGreat.L
set_option linter.unusedVariables false
structure Cu (c : List Int) (t : Int) (m : Nat) : Prop where
  len : c.length ≤ 1048576
  byt : ∀ x ∈ c, 0 ≤ x ∧ x ≤ 255
  lo : 0 ≤ t
  hi : t ≤ (m : Int)
theorem Cu.mono {c : List Int} {t : Int} {m n : Nat} (h : Cu c t m) (hm : m ≤ n) : Cu c t n := ⟨h.len, h.byt, h.lo, by have := h.hi; omega⟩
theorem cu_start {c : List Int} (hl : c.length ≤ 1048576) (hb : ∀ x ∈ c, (Lit.int .u8 x).wf = true) : Cu c 0 0 :=
  ⟨hl, fun x hx => by
    have h := hb x hx
    simp only [Lit.wf, Bool.and_eq_true, decide_eq_true_eq] at h
    have e0 : IntKind.u8.min = 0 := by decide
    have e1 : IntKind.u8.max = 255 := by decide
    omega, Int.le_refl _, Int.le_refl _⟩
theorem and255 (a : Int) : ∃ v : Nat, v ≤ 255 ∧ Go.bits .and .u64 a 255 = (v : Int) := by
  refine ⟨(BitVec.ofInt IntKind.u64.bits a).toNat &&& (BitVec.ofInt IntKind.u64.bits 255).toNat, ?_, ?_⟩
  · exact Nat.le_trans Nat.and_le_right (by decide)
  · simp only [Go.bits, BitVec.toNat_and]
    have h : (BitVec.ofInt IntKind.u64.bits a).toNat &&& (BitVec.ofInt IntKind.u64.bits 255).toNat ≤ 255 := Nat.le_trans Nat.and_le_right (by decide)
    rw [show ∀ n : Int, IntKind.u64.wrap n = n % 18446744073709551616 from fun n => by simp [IntKind.wrap, IntKind.bits, IntKind.signed]]
    omega
theorem next_ok {c : List Int} {t s : Int} {m : Nat} (h : Cu c t m) (hm : m ≤ 1000000) : ∃ v t' s', spec_l1Cur_next.f c t s = some (v, t', s') ∧ 0 ≤ v ∧ v ≤ 255 ∧ Cu c t' (m + 1) := by
  have hl := h.len
  have h0 := h.lo
  have h1 := h.hi
  have hc : Cu c (wrap64 (t + 1)) (m + 1) := ⟨h.len, h.byt, by rw [wrap_id (by omega) (by omega)]; omega, by rw [wrap_id (by omega) (by omega)]; omega⟩
  have wb : ∀ a : Int, 0 ≤ wrap64 (Go.bits .and .u64 a 255) ∧ wrap64 (Go.bits .and .u64 a 255) ≤ 255 := fun a => by
    obtain ⟨v, hv, e⟩ := and255 a
    rw [e, wrap_id (by omega) (by omega)]; omega
  unfold spec_l1Cur_next.f
  by_cases c1 : t < (c.length : Int)
  · obtain ⟨i, rfl⟩ : ∃ i : Nat, t = (i : Int) := ⟨t.toNat, by omega⟩
    have hb := h.byt _ (List.getElem_mem (show i < c.length by omega))
    rw [if_pos c1, if_pos h0, rd_get (by omega)]
    by_cases c2 : wrap64 ((i : Int) + 1) ≤ (c.length : Int)
    · rw [if_pos c2]
      exact ⟨_, _, _, rfl, by rw [wrap_id (by omega) (by omega)]; omega, by rw [wrap_id (by omega) (by omega)]; omega, hc⟩
    · rw [if_neg c2]
      exact ⟨_, _, _, rfl, (wb _).1, (wb _).2, hc⟩
  · rw [if_neg c1]
    by_cases c2 : wrap64 (t + 1) ≤ (c.length : Int)
    · rw [if_pos c2]
      exact ⟨_, _, _, rfl, by omega, by omega, hc⟩
    · rw [if_neg c2]
      exact ⟨_, _, _, rfl, (wb _).1, (wb _).2, hc⟩
theorem tmod_in {a n : Int} (ha : 0 ≤ a) (hn : 0 < n) : 0 ≤ Int.tmod a n ∧ Int.tmod a n < n := by
  rw [Int.tmod_eq_emod_of_nonneg ha]
  exact ⟨Int.emod_nonneg _ (by omega), Int.emod_lt_of_pos _ hn⟩
theorem pick_ok {c : List Int} {t s : Int} {m : Nat} (n : Int) (h : Cu c t m) (hm : m ≤ 900000) : ∃ v t' s', spec_l1Cur_pick.f c t s n = some (v, t', s') ∧ 0 ≤ v ∧ (v < n ∨ v = 0) ∧ Cu c t' (m + 2) := by
  unfold spec_l1Cur_pick.f
  by_cases c1 : n ≤ 1
  · rw [if_pos c1]
    exact ⟨_, _, _, rfl, Int.le_refl _, .inr rfl, h.mono (by omega)⟩
  · rw [if_neg c1]
    obtain ⟨v, t', s', e, v0, v1, h'⟩ := next_ok (s := s) h (by omega)
    rw [e, Option.bind_some]
    by_cases c2 : n > 200
    · obtain ⟨v2, t2, s2, e2, a0, a1, h2⟩ := next_ok (s := s') h' (by omega)
      dsimp only
      rw [if_pos c2, e2, Option.bind_some, if_neg (by omega)]
      dsimp only
      have w : wrap64 (wrap64 (v * 256) + v2) = v * 256 + v2 := by rw [wrap_id (x := v * 256) (by omega) (by omega), wrap_id (by omega) (by omega)]
      have b := tmod_in (a := v * 256 + v2) (n := n) (by omega) (by omega)
      refine ⟨_, _, _, rfl, ?_, .inl ?_, h2⟩
      · show 0 ≤ Int.tmod (wrap64 (wrap64 (v * 256) + v2)) n
        rw [w]; exact b.1
      · show Int.tmod (wrap64 (wrap64 (v * 256) + v2)) n < n
        rw [w]; exact b.2
    · dsimp only
      rw [if_neg c2, if_neg (by omega)]
      have b := tmod_in (a := v) (n := n) v0 (by omega)
      exact ⟨_, _, _, rfl, b.1, .inl b.2, h'.mono (by omega)⟩
theorem one_ok {c : List Int} {t s : Int} {m : Nat} (n : Int) (h : Cu c t m) (hm : m ≤ 900000) : ∃ v t' s', spec_l1Cur_one.f c t s n = some (v, t', s') ∧ Cu c t' (m + 2) := by
  obtain ⟨v, t', s', e, _, _, h'⟩ := pick_ok (s := s) n h hm
  unfold spec_l1Cur_one.f
  rw [e, Option.bind_some]
  exact ⟨_, _, _, rfl, h'⟩
theorem among_ok {c : List Int} {t s : Int} {m : Nat} (l : List Int) (hl : 0 < l.length) (h : Cu c t m) (hm : m ≤ 900000) : ∃ v t' s', spec_l1Cur_among.f c t s l = some (v, t', s') ∧ v ∈ l ∧ Cu c t' (m + 2) := by
  obtain ⟨v, t', s', e, v0, v1, h'⟩ := pick_ok (s := s) (l.length : Int) h hm
  obtain ⟨i, rfl⟩ : ∃ i : Nat, v = (i : Int) := ⟨v.toNat, by omega⟩
  unfold spec_l1Cur_among.f
  rw [e, Option.bind_some]
  have hi : i < l.length := by omega
  dsimp only
  rw [if_pos (by omega), if_pos (by omega), rd_get hi]
  exact ⟨_, _, _, rfl, List.getElem_mem hi, h'⟩
theorem one_plus (n : Nat) (h : n ≤ 1000) : wrap64 (1 + (n : Int)) = ((1 + n : Nat) : Int) := by rw [wrap_id (by omega) (by omega)]; omega
end Go.Proofs.YtkgngggppcmpfaaGreat.M
end
