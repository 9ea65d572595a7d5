/- Laws about the given program: the law FnSievesOfRows answers true for every input that its row lets in; no condition is added to the given statement. Contracts of the Go functions that it reaches, and the plain proof over lists. -/
import Derived.Test.YtkgngggppcmpfaaGreatWFnSievesOfRows0
import Derived.Test.YtkgngggppcmpfaaGreatKFnSievesOfRows0
import Derived.Test.YtkgngggppcmpfaaGreatKFnSievesOfRows1
import Derived.Test.YtkgngggppcmpfaaGreatKFnSievesOfRows2
import Derived.Test.YtkgngggppcmpfaaGreatKFnSievesOfRows3
import Derived.Test.YtkgngggppcmpfaaGreatKFnSievesOfRows4
import Derived.Test.YtkgngggppcmpfaaGreatKFnSievesOfRows5
import Derived.Test.YtkgngggppcmpfaaGreatKFnSievesOfRows6
section
namespace Go.Proofs.YtkgngggppcmpfaaGreat.L
open Go.RowKit Go.Proofs.YtkgngggppcmpfaaGreatW.PrintWords Go.Proofs.YtkgngggppcmpfaaGreatW.PrintLast Go.Proofs.YtkgngggppcmpfaaGreatW.PrintMore Go.Proofs.YtkgngggppcmpfaaGreat.X
attribute [local go_sem] max2_int min2_int max_two min_two max_three min_three max_four min_four
set_option linter.unusedVariables false
set_option linter.unusedSimpArgs false
mutual
def spec_l1Cur_rests.j0 : Nat → Int → Int → Bool → List Int → Int → Int → Option (List Int × Int × Int)
  | 0, _, _, _, _, _, _ => none
  | k + 1, x3, x4, x23, x1000, x1001, x1002 => if x23 = true then ((spec_l1Cur_pick.f x1000 x1001 x1002 8).bind fun bt654 => (spec_l1Cur_rests.l0 k ([] : List Int) (wrap64 (1 + bt654.1)) x1000 bt654.2.1 bt654.2.2)) else ((spec_GaussOf.f k x3 x4).bind fun bt663 => ((spec_RemaindersOf.f k bt663.1 (wrap64 (x3 + x4))).bind fun bt667 => ((spec_l1Cur_pick.f x1000 x1001 x1002 10).bind fun bt671 => (if bt671.1 = 0 then ((spec_l1Cur_pick.f x1000 bt671.2.1 bt671.2.2 (bt667.1.length : Int)).bind fun bt674 => ((spec_l1Cur_among.f x1000 bt674.2.1 bt674.2.2 (([(-1), 0, 100000000, 100000001] : List Int))).bind fun bt680 => (if 0 ≤ bt674.1 then (if bt674.1 < (bt667.1.length : Int) then (some ((bt667.1.set (bt674.1 : Int).toNat bt680.1), bt680.2.1, bt680.2.2)) else (none)) else (none)))) else (if bt671.1 = 1 then ((spec_l1Cur_pick.f x1000 bt671.2.1 bt671.2.2 2).bind fun bt684 => (if 0 ≤ (wrap64 (60 + bt684.1)) then (if (wrap64 (60 + bt684.1) : Int).toNat ≤ 35184372088832 then (some ((List.replicate (wrap64 (60 + bt684.1) : Int).toNat 0), bt684.2.1, bt684.2.2)) else (none)) else (none))) else (some (bt667.1, bt671.2.1, bt671.2.2)))))))
def spec_l1Cur_rests.l0 : Nat → List Int → Int → List Int → Int → Int → Option (List Int × Int × Int)
  | 0, _, _, _, _, _ => none
  | k + 1, x5, x6, x1000, x1001, x1002 => if x6 > 0 then ((spec_l1Cur_pick.f x1000 x1001 x1002 9).bind fun bt657 => (if x5.length < 17592186044416 then (spec_l1Cur_rests.l0 k (x5 ++ [bt657.1]) (wrap64 (x6 - 1)) x1000 bt657.2.1 bt657.2.2) else (none))) else (some (x5, x1001, x1002))
end
def spec_l1Cur_rests.f (k : Nat) (s0_0 : List Int) (s0_1 : Int) (s0_2 : Int) : Option (List Int × Int × Int) := (spec_l1Cur_sides.f s0_0 s0_1 s0_2).bind fun bt646 => ((spec_shSides.f bt646.1 bt646.2.1).bind fun t650 => (if t650 = true then ((spec_l1Cur_one.f s0_0 bt646.2.2.1 bt646.2.2.2 6).bind fun bt651 => (spec_l1Cur_rests.j0 k bt646.1 bt646.2.1 bt651.1 s0_0 bt651.2.1 bt651.2.2)) else (spec_l1Cur_rests.j0 k bt646.1 bt646.2.1 true s0_0 bt646.2.2.1 bt646.2.2.2)))
theorem spec_l1Cur_rests.mono_l : ∀ k, (∀ y0 y1 y2 y3 y4 y5, LeO (spec_l1Cur_rests.j0 k y0 y1 y2 y3 y4 y5) (spec_l1Cur_rests.j0 (k + 1) y0 y1 y2 y3 y4 y5)) ∧ (∀ y0 y1 y2 y3 y4, LeO (spec_l1Cur_rests.l0 k y0 y1 y2 y3 y4) (spec_l1Cur_rests.l0 (k + 1) y0 y1 y2 y3 y4))
  | 0 => ⟨fun _ _ _ _ _ _ r h => by simp [spec_l1Cur_rests.j0] at h, fun _ _ _ _ _ r h => by simp [spec_l1Cur_rests.l0] at h⟩
  | k + 1 => by
    obtain ⟨ih0, ih1⟩ := spec_l1Cur_rests.mono_l k
    refine ⟨?_, ?_⟩
    all_goals
      intros
      first | unfold spec_l1Cur_rests.j0 | unfold spec_l1Cur_rests.l0
      repeat' (with_reducible first | apply ih0 | apply ih1 | apply spec_GaussOf.mono | apply spec_RemaindersOf.mono | exact LeO.refl _ | exact LeO.none _ | refine LeO.ite ?_ ?_ | refine LeO.bind ?_ (fun _ => ?_))
theorem spec_l1Cur_rests.mono : ∀ a0 a1 a2 k, LeO (spec_l1Cur_rests.f k a0 a1 a2) (spec_l1Cur_rests.f (k + 1) a0 a1 a2) := by
  intro a0 a1 a2 k
  obtain ⟨ih0, ih1⟩ := spec_l1Cur_rests.mono_l k
  unfold spec_l1Cur_rests.f
  repeat' (with_reducible first | apply ih0 | apply ih1 | apply spec_GaussOf.mono | apply spec_RemaindersOf.mono | exact LeO.refl _ | exact LeO.none _ | refine LeO.ite ?_ ?_ | refine LeO.bind ?_ (fun _ => ?_))
set_option maxHeartbeats 8000000 in
set_option maxRecDepth 100000 in
theorem spec_l1Cur_rests.calls (k : Nat) (g : Nat) (s0_0 : List Int) (s0_1 : Int) (s0_2 : Int) (r1 : List Int) (r2 : Int) (r3 : Int) (w0 w : World) (hI : IsS94 w0 w g s0_0 s0_1 s0_2) (hB : Below w0.heap.size w0 w) (h : spec_l1Cur_rests.f k s0_0 s0_1 s0_2 = some (r1, r2, r3)) :
    Calls Tryz.prog 225 #[.pointer (some ⟨g, 0, none⟩)] w fun e w' => ∃ v0_ : Value, e = .returned (v0_) ∧ Kd.R (Kd.int .i64) 3 w' w.heap.size (fun _ => True) v0_ r1 ∧ IsS94 w0 w' g s0_0 r2 r3 ∧ Below w0.heap.size w0 w' ∧ KeepBut w w' g none := by
  have HI0 := Aside0.mk hI
  have HK := Aside0.mk (KeepBut.refl w g none)
  have HL := Aside0.mk hB.size
  clear hI
  have HW0 := Aside0.mk hB.size
  have HB := Aside0.mk hB
  clear hB
  have H : ((spec_l1Cur_sides.f s0_0 s0_1 s0_2).bind fun bt646 => ((spec_shSides.f bt646.1 bt646.2.1).bind fun t650 => (if t650 = true then ((spec_l1Cur_one.f s0_0 bt646.2.2.1 bt646.2.2.2 6).bind fun bt651 => (spec_l1Cur_rests.j0 k bt646.1 bt646.2.1 bt651.1 s0_0 bt651.2.1 bt651.2.2)) else (spec_l1Cur_rests.j0 k bt646.1 bt646.2.1 true s0_0 bt646.2.2.1 bt646.2.2.2)))) = some (r1, r2, r3) := h
  clear h
  obtain ⟨⟨t646, t647, t648, t649⟩, A2, H⟩ := bs H; (try dsimp only at H)
  have HC3 := Aside0.mk H
  clear H
  go_enter Tryz.func225, Tryz.ntmps225
  go_upto_region 2 with (first | (refine gA (some 13) Tryz.func213 #[.pointer (some ⟨g, 0, none⟩)] ?_; (with_reducible refine (spec_l1Cur_sides.calls g s0_0 s0_1 s0_2 t646 t647 t648 t649 w0 _ (IsS94.vI HI0) (IsS94.vB HB) A2.out).mono ?_); rintro e w4 ⟨rfl, hi, hb, hk⟩; refine ⟨_, rfl, ?_⟩; have n0_ := Aside0.mk (KeepBut.trans (vK HK) hk (.inl rfl)); have n1_ := Aside0.mk (hb); have n2_ := Aside0.mk (hi); clear HK; clear HB; clear HI0; have HK := n0_; have HB := n1_; have HI0 := n2_; clear n0_ n1_ n2_; (try clear hb hk hi)))
  (try simp only [Act.put, List.setIfInBounds_toArray, List.set_cons_zero, List.set_cons_succ])
  go_cut [23] (fun v23 wc => ∃ (kq : Nat) (x23_2 : Bool) (x1001_2 : Int) (x1002_2 : Int), v23 = .bool x23_2 ∧ Aside0 (spec_l1Cur_rests.j0 kq t646 t647 x23_2 s0_0 x1001_2 x1002_2 = some (r1, r2, r3)) ∧ Aside0 (kq ≤ k) ∧ Aside0 (IsS94 w0 wc g s0_0 x1001_2 x1002_2) ∧ Aside0 (KeepBut w wc g none) ∧ Aside0 (Below w0.heap.size w0 wc))
  case first =>
    have H := HC3.out
    clear HC3
    obtain ⟨t650, A5, H⟩ := bs H; (try dsimp only at H)
    by_cases c6 : t650 = true
    · subst c6
      rw [if_pos rfl] at H
      obtain ⟨⟨t651, t652, t653⟩, A7, H⟩ := bs H; (try dsimp only at H)
      have H' := Aside0.mk H
      clear H
      go_wp2_with (first | (refine gA (some 18) Tryz.func203 #[.int .i64 t646, .int .i64 t647] ?_; (with_reducible refine (spec_shSides.calls t646 t647 true _ A5.out).mono ?_); rintro e w' ⟨rfl, ⟨nd, rfl⟩⟩; refine ⟨_, rfl, ?_⟩) | (go_at_call 161; (with_reducible refine (spec_l1Cur_one.calls g s0_0 t648 t649 6 t651 t652 t653 w0 _ (IsS94.vI HI0) (IsS94.vB HB) A7.out).mono ?_); rintro e w8 ⟨rfl, hi, hb, hk⟩; have n0_ := Aside0.mk (KeepBut.trans (vK HK) hk (.inl rfl)); have n1_ := Aside0.mk (hb); have n2_ := Aside0.mk (hi); clear HK; clear HB; clear HI0; have HK := n0_; have HB := n1_; have HI0 := n2_; clear n0_ n1_ n2_; (try clear hb hk hi)))
      go_meet
      case rel => exact ⟨_, (t651), (t652), (t653), (by first | rfl | (simp; done) | (simp [*]; done)), H', ⟨by first | omega | exact Nat.le_refl _⟩, ⟨(IsS94.vI HI0)⟩, ⟨(vK HK)⟩, ⟨(IsS94.vB HB)⟩⟩
    · replace c6 := Bool.eq_false_iff.mpr c6
      subst c6
      rw [if_neg (show ¬ (false = true) by decide)] at H
      have H' := Aside0.mk H
      clear H
      go_wp2_with (first | (refine gA (some 18) Tryz.func203 #[.int .i64 t646, .int .i64 t647] ?_; (with_reducible refine (spec_shSides.calls t646 t647 false _ A5.out).mono ?_); rintro e w' ⟨rfl, ⟨nd, rfl⟩⟩; refine ⟨_, rfl, ?_⟩))
      go_meet
      case rel => exact ⟨_, (true), (t648), (t649), (by first | rfl | (simp; done) | (simp [*]; done)), H', ⟨by first | omega | exact Nat.le_refl _⟩, ⟨(IsS94.vI HI0)⟩, ⟨(vK HK)⟩, ⟨(IsS94.vB HB)⟩⟩
  case rest =>
    clear HC3
    skip
    obtain ⟨kq, x23_2, x1001_2, x1002_2, rfl, HA, HJ2, HI0, HK, HB⟩ := hcut
    cases kq with
    | zero => exact absurd HA.out (by simp [spec_l1Cur_rests.j0])
    | succ kj2 =>
      have H := HA.out
      clear HA
      simp only [spec_l1Cur_rests.j0] at H
      by_cases c9 : x23_2 = true
      · subst c9
        rw [if_pos rfl] at H
        obtain ⟨⟨t654, t655, t656⟩, A10, H⟩ := bs H; (try dsimp only at H)
        have H' := Aside0.mk H
        clear H
        go_wp2_with (first | (refine gA (some 25) Tryz.func162 #[.pointer (some ⟨g, 0, none⟩), .int .i64 8] ?_; (with_reducible refine (spec_l1Cur_pick.calls g s0_0 x1001_2 x1002_2 8 t654 t655 t656 w0 _ (IsS94.vI HI0) (IsS94.vB HB) A10.out).mono ?_); rintro e w11 ⟨rfl, hi, hb, hk⟩; refine ⟨_, rfl, ?_⟩; have n0_ := Aside0.mk (KeepBut.trans (vK HK) hk (.inl rfl)); have n1_ := Aside0.mk (hb); have n2_ := Aside0.mk (hi); clear HK; clear HB; clear HI0; have HK := n0_; have HB := n1_; have HI0 := n2_; clear n0_ n1_ n2_; (try clear hb hk hi)))
        go_loopg [5, 6] kj2 (fun kq v5 v6 w' => ∃ (x5_2 : List Int) (x6_2 : Int) (x1001_2 : Int) (x1002_2 : Int), v6 = .int .i64 x6_2 ∧ Aside0 (spec_l1Cur_rests.l0 kq x5_2 x6_2 s0_0 x1001_2 x1002_2 = some (r1, r2, r3)) ∧ Aside0 (kq ≤ kj2) ∧ Aside0 (Kd.R (Kd.int .i64) 3 w' w.heap.size (fun _ => True) v5 x5_2) ∧ Aside0 (IsS94 w0 w' g s0_0 x1001_2 x1002_2) ∧ Aside0 (KeepBut w w' g none) ∧ Aside0 (Below w0.heap.size w0 w'))
        case atStart => exact ⟨(([] : List Int)), (wrap64 (1 + t654)), (t655), (t656), (by first | rfl | (simp; done) | (simp [*]; done)), H', ⟨Nat.le_refl _⟩, ⟨by first | exact Kd.R_nil _ _ _ _ _ | exact Kd.N_nil _ _ _ _ _ | exact Kd.V_nil _ _ _ _ _ | exact Kd.Q_nil _ _ _ _ _ | exact Kd.S_nil _ _ _ _ _⟩, ⟨(IsS94.vI HI0)⟩, ⟨(vK HK)⟩, ⟨(IsS94.vB HB)⟩⟩
        case round =>
          clear H'
          skip
          obtain ⟨x5_2, x6_2, x1001_2, x1002_2, rfl, HA, HK2, HO_5, HI0, HK, HB⟩ := hrel
          cases gk with
          | zero => exact absurd HA.out (by simp [spec_l1Cur_rests.l0])
          | succ k2 =>
            have H := HA.out
            clear HA
            simp only [spec_l1Cur_rests.l0] at H
            by_cases c12 : x6_2 > 0
            · rw [if_pos c12] at H
              have c12b0 := decide_eq_true c12
              clear c12
              obtain ⟨⟨t657, t658, t659⟩, A13, H⟩ := bs H; (try dsimp only at H)
              by_cases c14 : x5_2.length < 17592186044416
              · rw [if_pos c14] at H
                have LMc14 := Aside0.mk c14
                clear c14
                obtain ⟨y660, hy660⟩ : ∃ y_ : List Int, y_ = (x5_2 ++ [t657]) := ⟨_, rfl⟩
                replace H : (spec_l1Cur_rests.l0 k2 y660 (wrap64 (x6_2 - 1)) s0_0 t658 t659) = some (r1, r2, r3) := by first | (rw [hy660]; with_reducible exact H) | (have H2_ := (Option.bind_some _ _).symm.trans H; rw [hy660]; with_reducible exact H2_) | (have H2_ := (Option.bind_some _ _).symm.trans H; with_reducible exact H2_) | with_reducible exact H | (rw [hy660]; exact H) | exact H
                have Ny660 := Aside0.mk hy660
                clear hy660
                have H' := Aside0.mk H
                clear H
                go_wp2_with (first | (refine gA (some 33) Tryz.func162 #[.pointer (some ⟨g, 0, none⟩), .int .i64 9] ?_; (with_reducible refine (spec_l1Cur_pick.calls g s0_0 x1001_2 x1002_2 9 t657 t658 t659 w0 _ (IsS94.vI HI0) (IsS94.vB HB) A13.out).mono ?_); rintro e w15 ⟨rfl, hi, hb, hk⟩; refine ⟨_, rfl, ?_⟩; have n0_ := Aside0.mk (Kd.R_mono (Kd.R_keep (IsS94.apart (show IsS94 w0 _ g s0_0 x1001_2 x1002_2 from (IsS94.vI HI0)) (uR HO_5) (by decide)) hk (fun _ h => h.2)) (fun _ h => h.1)); have n1_ := Aside0.mk (KeepBut.trans (vK HK) hk (.inl rfl)); have n2_ := Aside0.mk (hb); have n3_ := Aside0.mk (hi); clear HO_5; clear HK; clear HB; clear HI0; have HO_5 := n0_; have HK := n1_; have HB := n2_; have HI0 := n3_; clear n0_ n1_ n2_ n3_; (try clear hb hk hi)) | ((with_reducible refine gate_builtin (b := .append) (xs := #[.tmp 31, .tmp 34]) rfl ?_); at_builtin; refine Kd.R_append (Kd.int .i64) w.heap.size rfl (.tmp 31) (.tmp 34) 24 3 (.int .i64 0) 8 rfl Tryz.underlying24 info3 rfl (by decide) (by omega) u5 x5_2 t657 [.int .i64 t657] (fun _ => True) (fun _ => False) rfl rfl ?aP (fun _ hk => hk.elim) ?aF ?aO (Below.refl _ _) ?aS ?aL ?_; (case aP => exact rfl); (case aF => exact (fun _ _ => trivial)); (case aO => exact (uR HO_5)); (case aS => exact (keep_size (w := w) (g := g) (row := none) (vK HK))); (case aL => have := LMc14.out; omega); intro v661 w16 ho hb hg hat; rw [← Ny660.out] at ho; have n0_ := Aside0.mk (IsS94.grown (IsS94.vI HI0) hg (IsS94.own_ne HI0.out HO_5.out (by decide))); have n1_ := Aside0.mk (below_weaken (IsS94.vB HB) HL.out hb); have n2_ := Aside0.mk (KeepBut.trans (vK HK) (KeepBut.of_grown hg g) (Kd.R_base2 HO_5.out)); have n3_ := Aside0.mk (ho); clear HI0; clear HB; clear HK; clear HO_5; have HI0 := n0_; have HB := n1_; have HK := n2_; have HO662 := n3_; clear n0_ n1_ n2_ n3_; clear ho hb hg hat))
                go_roundg k2
                case measure => have := HJ2.out; have := HK2.out; omega
                case rel => exact ⟨(y660), (wrap64 (x6_2 - 1)), (t658), (t659), (by first | rfl | (simp; done) | (simp [*]; done)), H', ⟨by have := HJ2.out; have := HK2.out; omega⟩, ⟨uR HO662⟩, ⟨(IsS94.vI HI0)⟩, ⟨(vK HK)⟩, ⟨(IsS94.vB HB)⟩⟩
              · rw [if_neg c14] at H
                exact absurd H (by simp)
            · rw [if_neg c12] at H
              have c12b0 := decide_eq_false c12
              clear c12
              simp only [Option.some.injEq, Prod.mk.injEq] at H
              obtain ⟨rfl, rfl, rfl⟩ := H
              go_wp2
              go_ret
              exact ⟨_, by first | rfl | (simp [errW_none, errW_some] <;> rfl) | (simp [*, errW_none, errW_some] <;> rfl), uR HO_5, (IsS94.vI HI0), (IsS94.vB HB), (vK HK)⟩
      · replace c9 := Bool.eq_false_iff.mpr c9
        subst c9
        rw [if_neg (show ¬ (false = true) by decide)] at H
        obtain ⟨⟨t663, t664⟩, A17, H⟩ := bs H; (try dsimp only at H)
        obtain ⟨⟨t667, t668⟩, A18, H⟩ := bs H; (try dsimp only at H)
        obtain ⟨⟨t671, t672, t673⟩, A19, H⟩ := bs H; (try dsimp only at H)
        by_cases c20 : t671 = 0
        · rw [if_pos c20] at H
          have c20b0 : (t671 == 0) = true := beq_iff_eq.mpr c20
          have c20b1 : (t671 != 0) = false := bne_eq_false_iff_eq.mpr c20
          clear c20
          obtain ⟨⟨t674, t675, t676⟩, A21, H⟩ := bs H; (try dsimp only at H)
          obtain ⟨y677, hy677⟩ : ∃ y_ : List Int, y_ = (([(-1), 0, 100000000, 100000001] : List Int)) := ⟨_, rfl⟩
          replace H : ((spec_l1Cur_among.f s0_0 t675 t676 y677).bind fun bt680 => (if 0 ≤ t674 then (if t674 < (t667.length : Int) then (some ((t667.set (t674 : Int).toNat bt680.1), bt680.2.1, bt680.2.2)) else (none)) else (none))) = some (r1, r2, r3) := by first | (rw [hy677]; with_reducible exact H) | (have H2_ := (Option.bind_some _ _).symm.trans H; rw [hy677]; with_reducible exact H2_) | (have H2_ := (Option.bind_some _ _).symm.trans H; with_reducible exact H2_) | with_reducible exact H | (rw [hy677]; exact H) | exact H
          have Ny677 := Aside0.mk hy677
          clear hy677
          obtain ⟨⟨t680, t681, t682⟩, A22, H⟩ := bs H; (try dsimp only at H)
          by_cases c23 : 0 ≤ t674
          · rw [if_pos c23] at H
            have c23b0 := decide_eq_true c23
            clear c23
            by_cases c24 : t674 < (t667.length : Int)
            · rw [if_pos c24] at H
              have c24b0 := decide_eq_true c24
              clear c24
              obtain ⟨y683, hy683⟩ : ∃ y_ : List Int, y_ = (t667.set (t674 : Int).toNat t680) := ⟨_, rfl⟩
              replace H : (some (y683, t681, t682)) = some (r1, r2, r3) := by first | (rw [hy683]; with_reducible exact H) | (have H2_ := (Option.bind_some _ _).symm.trans H; rw [hy683]; with_reducible exact H2_) | (have H2_ := (Option.bind_some _ _).symm.trans H; with_reducible exact H2_) | with_reducible exact H | (rw [hy683]; exact H) | exact H
              have Ny683 := Aside0.mk hy683
              clear hy683
              simp only [Option.some.injEq, Prod.mk.injEq] at H
              obtain ⟨rfl, rfl, rfl⟩ := H
              go_wp2_with (first | (refine gA (some 40) Tryz.func61 #[.int .i64 t646, .int .i64 t647] ?_; (with_reducible refine (spec_GaussOf.calls kj2 t646 t647 t663 t664 _ A17.out).mono ?_); rintro e w26 ⟨v665, rfl, ho0, hb⟩; refine ⟨_, rfl, ?_⟩; have n0_ := Aside0.mk (Kd.R_lower ho0 (keep_size (w := w) (g := g) (row := none) (vK HK))); have n1_ := Aside0.mk (IsS94.below (IsS94.vI HI0) hb); have n2_ := Aside0.mk (KeepBut.trans (vK HK) (KeepBut.of_below hb g none) (.inl rfl)); have n3_ := Aside0.mk (below_step (IsS94.vB HB) hb); clear HI0; clear HK; clear HB; have HO666 := n0_; have HI0 := n1_; have HK := n2_; have HB := n3_; clear n0_ n1_ n2_ n3_; (try clear hb ho0); obtain ⟨Ao27, co27, eo27⟩ := Kd.R_slice HO666.out; subst eo27) | (refine gA (some 48) Tryz.func71 #[.slice Ao27 t663.length co27, .int .i64 (wrap64 (t646 + t647))] ?_; (with_reducible refine (spec_RemaindersOf.calls kj2 _ _ t663 (wrap64 (t646 + t647)) t667 t668 _ (uE HO666) ?side2 A18.out).mono ?_); (case side2 => exact (Kd.R_reads' HO666.out).2.1); rintro e w28 ⟨v669, rfl, ho0, hb⟩; refine ⟨_, rfl, ?_⟩; have n0_ := Aside0.mk (Kd.R_elder' (uR HO666) (Kd.R_base ho0) hb); have n1_ := Aside0.mk (Kd.R_lower (Kd.R_new' ho0 (Kd.R_lt (uR HO666))) (keep_size (w := w) (g := g) (row := none) (vK HK))); have n2_ := Aside0.mk (IsS94.below (IsS94.vI HI0) hb); have n3_ := Aside0.mk (KeepBut.trans (vK HK) (KeepBut.of_below hb g none) (.inl rfl)); have n4_ := Aside0.mk (below_step (IsS94.vB HB) hb); clear HO666; clear HI0; clear HK; clear HB; have HO666 := n0_; have HO670 := n1_; have HI0 := n2_; have HK := n3_; have HB := n4_; clear n0_ n1_ n2_ n3_ n4_; (try clear hb ho0)) | (refine gA (some 52) Tryz.func162 #[.pointer (some ⟨g, 0, none⟩), .int .i64 10] ?_; (with_reducible refine (spec_l1Cur_pick.calls g s0_0 x1001_2 x1002_2 10 t671 t672 t673 w0 _ (IsS94.vI HI0) (IsS94.vB HB) A19.out).mono ?_); rintro e w29 ⟨rfl, hi, hb, hk⟩; refine ⟨_, rfl, ?_⟩; have n0_ := Aside0.mk (Kd.R_mono (Kd.R_keep (IsS94.apart (show IsS94 w0 _ g s0_0 x1001_2 x1002_2 from (IsS94.vI HI0)) (uR HO666) (by decide)) hk (fun _ h => h.2)) (fun _ h => h.1)); have n1_ := Aside0.mk (Kd.R_mono (Kd.R_keep (IsS94.apart (show IsS94 w0 _ g s0_0 x1001_2 x1002_2 from (IsS94.vI HI0)) (uR HO670) (by decide)) hk (fun _ h => h.2)) (fun _ h => h.1)); have n2_ := Aside0.mk (KeepBut.trans (vK HK) hk (.inl rfl)); have n3_ := Aside0.mk (hb); have n4_ := Aside0.mk (hi); clear HO666; clear HO670; clear HK; clear HB; clear HI0; have HO666 := n0_; have HO670 := n1_; have HK := n2_; have HB := n3_; have HI0 := n4_; clear n0_ n1_ n2_ n3_ n4_; (try clear hb hk hi); obtain ⟨Ao30, co30, eo30⟩ := Kd.R_slice HO670.out; subst eo30) | (refine gA (some 59) Tryz.func162 #[.pointer (some ⟨g, 0, none⟩), .int .i64 (t667.length : Int)] ?_; (with_reducible refine (spec_l1Cur_pick.calls g s0_0 t672 t673 (t667.length : Int) t674 t675 t676 w0 _ (IsS94.vI HI0) (IsS94.vB HB) A21.out).mono ?_); rintro e w31 ⟨rfl, hi, hb, hk⟩; refine ⟨_, rfl, ?_⟩; have n0_ := Aside0.mk (Kd.R_mono (Kd.R_keep (IsS94.apart (show IsS94 w0 _ g s0_0 t672 t673 from (IsS94.vI HI0)) (uR HO666) (by decide)) hk (fun _ h => h.2)) (fun _ h => h.1)); have n1_ := Aside0.mk (Kd.R_mono (Kd.R_keep (IsS94.apart (show IsS94 w0 _ g s0_0 t672 t673 from (IsS94.vI HI0)) (uR HO670) (by decide)) hk (fun _ h => h.2)) (fun _ h => h.1)); have n2_ := Aside0.mk (KeepBut.trans (vK HK) hk (.inl rfl)); have n3_ := Aside0.mk (hb); have n4_ := Aside0.mk (hi); clear HO666; clear HO670; clear HK; clear HB; clear HI0; have HO666 := n0_; have HO670 := n1_; have HK := n2_; have HB := n3_; have HI0 := n4_; clear n0_ n1_ n2_ n3_ n4_; (try clear hb hk hi)) | ((with_reducible refine gate_dst (N := 61) rfl ?_); refine Kd.R_lit (Kd.int .i64) _ 3 ?hg (N := 61) ?hd (xs := ([(-1), 0, 100000000, 100000001] : List Int)) (inner := [.int .i64 (-1), .int .i64 0, .int .i64 100000000, .int .i64 100000001]) (ok := fun _ => True) (okp := fun _ => True) ?hr ?hp (fun _ hk => hk) trivial (Below.refl _ _) (Nat.le_refl _) (by simp) ?_; (case hd => rfl); (case hg => rfl); (case hr => first | (go_simp; done) | (go_simp; rfl)); (case hp => exact (Reps.one (show Kd.M (Kd.int .i64) _ _ _ (-1) [.int .i64 (-1)] from rfl) (Reps.one (show Kd.M (Kd.int .i64) _ _ _ 0 [.int .i64 0] from rfl) (Reps.one (show Kd.M (Kd.int .i64) _ _ _ 100000000 [.int .i64 100000000] from rfl) (Reps.one (show Kd.M (Kd.int .i64) _ _ _ 100000001 [.int .i64 100000001] from rfl) (Reps.none _ _)))))); intro v678 w32 ho33 hb hg_ hnew_; clear hg_ hnew_; (first | rw [← Ny677.out] at ho33 | (simp only [Int.reduceToNat] at ho33; rw [← Ny677.out] at ho33)); have n0_ := Aside0.mk (Kd.R_elder' (uR HO666) (Kd.R_base ho33) hb); have n1_ := Aside0.mk (Kd.R_elder' (uR HO670) (Kd.R_base ho33) hb); have n2_ := Aside0.mk (Kd.R_lower (Kd.R_new' (Kd.R_new' ho33 (Kd.R_lt (uR HO666))) (Kd.R_lt (uR HO670))) (keep_size (w := w) (g := g) (row := none) (vK HK))); have n3_ := Aside0.mk (IsS94.below (IsS94.vI HI0) hb); have n4_ := Aside0.mk (KeepBut.trans (vK HK) (KeepBut.of_below hb g none) (.inl rfl)); have n5_ := Aside0.mk (below_step (IsS94.vB HB) hb); clear HO666; clear HO670; clear HI0; clear HK; clear HB; have HO666 := n0_; have HO670 := n1_; have HO679 := n2_; have HI0 := n3_; have HK := n4_; have HB := n5_; clear n0_ n1_ n2_ n3_ n4_ n5_; clear hb ho33; obtain ⟨Ao34, co34, eo34⟩ := Kd.R_slice HO679.out; subst eo34) | (refine gA (some 62) Tryz.func190 #[.pointer (some ⟨g, 0, none⟩), .slice Ao34 y677.length co34] ?_; (with_reducible refine (spec_l1Cur_among.calls g s0_0 t675 t676 _ _ y677 t680 t681 t682 w0 _ (IsS94.vI HI0) (IsS94.vB HB) (uE HO679) ?side4 ?side5 A22.out).mono ?_); (case side4 => exact (Kd.R_reads' HO679.out).2.1); (case side5 => exact far_slice (IsS94.own_ne HI0.out HO679.out (by decide))); rintro e w35 ⟨rfl, hi, hb, hk⟩; refine ⟨_, rfl, ?_⟩; have n0_ := Aside0.mk (Kd.R_mono (Kd.R_keep (IsS94.apart (show IsS94 w0 _ g s0_0 t675 t676 from (IsS94.vI HI0)) (uR HO666) (by decide)) hk (fun _ h => h.2)) (fun _ h => h.1)); have n1_ := Aside0.mk (Kd.R_mono (Kd.R_keep (IsS94.apart (show IsS94 w0 _ g s0_0 t675 t676 from (IsS94.vI HI0)) (uR HO670) (by decide)) hk (fun _ h => h.2)) (fun _ h => h.1)); have n2_ := Aside0.mk (Kd.R_mono (Kd.R_keep (IsS94.apart (show IsS94 w0 _ g s0_0 t675 t676 from (IsS94.vI HI0)) (uR HO679) (by decide)) hk (fun _ h => h.2)) (fun _ h => h.1)); have n3_ := Aside0.mk (KeepBut.trans (vK HK) hk (.inl rfl)); have n4_ := Aside0.mk (hb); have n5_ := Aside0.mk (hi); clear HO666; clear HO670; clear HO679; clear HK; clear HB; clear HI0; have HO666 := n0_; have HO670 := n1_; have HO679 := n2_; have HK := n3_; have HB := n4_; have HI0 := n5_; clear n0_ n1_ n2_ n3_ n4_ n5_; (try clear hb hk hi); have p25 : 0 ≤ (t674 : Int) := of_decide_eq_true (by first | (with_reducible assumption) | assumption); have q25 : (t674 : Int) < ((t667.length : Int) : Int) := of_decide_eq_true (by first | (with_reducible assumption) | assumption); obtain ⟨go25, co25, eo25, gb25, gl25, cl25, HG25⟩ := Kd.R_form HO670.out (by omega); (first | cases eo25 | (injection eo25 with ea_ en_ ec_; (first | subst ea_ | (injection ea_ with ea_; subst ea_)); subst ec_; clear en_)); have GB25 := Aside0.mk gb25; have GG25 := Aside0.mk HG25; clear gb25 gl25 HG25; obtain ⟨hx25_0, hf25_0⟩ := Kd.R_celln 0 HO670.out (t674 : Int) p25 q25; replace p25 := eq_true p25; replace q25 := eq_true q25; have n_ := Aside0.mk (Kd.R_mono (ok' := (fun k_ => some k_ ≠ (.slice Ao27 t663.length co27 : Value).ownBlock ∧ some k_ ≠ (.slice Ao34 y677.length co34 : Value).ownBlock)) HO670.out (fun k_ hk => ⟨hk.1.2, hk.2⟩)); clear HO670; have HO670 := n_; clear n_; obtain ⟨hy36_, hz36_⟩ := Kd.R_celln 0 HO670.out (t674 : Int) (of_decide_eq_true (by first | (with_reducible assumption) | assumption)) (of_decide_eq_true (by first | (with_reducible assumption) | assumption)); have HP36 := Kd.R_putg HO670.out (t674 : Int) t680) | ((with_reducible refine gate_store (t := 3) (p := 63) rfl ?_); refine store_event (t := 3) (p := 63) (v := ?vo_w37) (w1 := (w35.setCell ⟨go25, (t674 : Int).toNat, none⟩ (.int .i64 t680))) ?hg ?ho ?hn ?hr ?_; (case ho => rfl); (case hg => rfl); (case hn => rfl); (case hr => first | (go_simp; done) | (go_simp; rfl)); intro w37 hw; have hg : w35.grownBy w37 (some go25) := (by rw [hw]; exact HP36.2); have hp_ : Kd.R (Kd.int .i64) 3 w37 w.heap.size (fun k_ => some k_ ≠ (.slice Ao27 t663.length co27 : Value).ownBlock ∧ some k_ ≠ (.slice Ao34 y677.length co34 : Value).ownBlock) (.slice (some ⟨go25, 0, none⟩) t667.length co30) y683 := (by rw [hw, Ny683.out]; exact HP36.1); clear HP36; have n0_ := Aside0.mk (IsS94.grown (IsS94.vI HI0) hg (IsS94.own_ne HI0.out HO670.out (by decide))); have n1_ := Aside0.mk (Kd.R_after (v := (.slice (some ⟨go25, 0, none⟩) t667.length co30)) (v1 := (.slice (some ⟨go25, 0, none⟩) t667.length co30)) (ok := (fun k_ => some k_ ≠ (.slice Ao34 y677.length co34 : Value).ownBlock)) (Kd.R_mono (uR HO666) (fun _ hk => ⟨hk.2, hk.1.2⟩)) hg (.inl rfl)); have n2_ := Aside0.mk (hp_); have n3_ := Aside0.mk (Kd.R_after (v := (.slice (some ⟨go25, 0, none⟩) t667.length co30)) (v1 := (.slice (some ⟨go25, 0, none⟩) t667.length co30)) (ok := (fun k_ => some k_ ≠ (.slice Ao27 t663.length co27 : Value).ownBlock)) (Kd.R_mono (uR HO679) (fun _ hk => ⟨hk.1.2, hk.2⟩)) hg (.inl rfl)); have n4_ := Aside0.mk ((by rw [hw]; exact below_set (HB.out) (Nat.le_trans HL.out GB25.out) : Below w0.heap.size w0 w37)); have n5_ := Aside0.mk (KeepBut.trans (vK HK) (KeepBut.of_grown hg g) (Kd.R_base2 HO670.out)); clear HI0; clear HO666; clear HO670; clear HO679; clear HB; clear HK; have HI0 := n0_; have HO666 := n1_; have HO670 := n2_; have HO679 := n3_; have HB := n4_; have HK := n5_; clear n0_ n1_ n2_ n3_ n4_ n5_; clear hg hw hp_))
              go_ret
              exact ⟨_, by first | rfl | (simp [errW_none, errW_some] <;> rfl) | (simp [*, errW_none, errW_some] <;> rfl), Kd.R_mono (uR HO670) (fun _ hk => trivial), (IsS94.vI HI0), (IsS94.vB HB), (vK HK)⟩
            · rw [if_neg c24] at H
              exact absurd H (by simp)
          · rw [if_neg c23] at H
            exact absurd H (by simp)
        · rw [if_neg c20] at H
          have c20b0 : (t671 == 0) = false := beq_eq_false_iff_ne.mpr c20
          have c20b1 : (t671 != 0) = true := bne_iff_ne.mpr c20
          by_cases c38 : t671 = 1
          · rw [if_pos c38] at H
            have c38b0 : (t671 == 1) = true := beq_iff_eq.mpr c38
            have c38b1 : (t671 != 1) = false := bne_eq_false_iff_eq.mpr c38
            clear c38
            obtain ⟨⟨t684, t685, t686⟩, A39, H⟩ := bs H; (try dsimp only at H)
            obtain ⟨ji40, hji40⟩ : ∃ j_ : Int, (wrap64 (60 + t684)) = j_ := ⟨_, rfl⟩
            replace H : (if 0 ≤ (ji40) then (if (ji40 : Int).toNat ≤ 35184372088832 then (some ((List.replicate (ji40 : Int).toNat 0), t685, t686)) else (none)) else (none)) = some (r1, r2, r3) := by first | (rw [hji40] at H; exact H) | (simp only [hji40] at H ⊢; exact H)
            (try rw [hji40] at A17)
            (try rw [hji40] at A18)
            (try rw [hji40] at A19)
            (try rw [hji40] at A39)
            have hji40w : (IntKind.i64.wrap (60 + t684)) = ji40 := (i64_w _).trans hji40
            by_cases c41 : 0 ≤ (ji40)
            · rw [if_pos c41] at H
              have c41b0 := eq_true c41
              have c41b1 := decide_eq_true c41
              clear c41
              by_cases c42 : (ji40 : Int).toNat ≤ 35184372088832
              · rw [if_pos c42] at H
                have c42b0 := eq_true c42
                have c42b1 := decide_eq_true c42
                clear c42
                obtain ⟨y687, hy687⟩ : ∃ y_ : List Int, y_ = (List.replicate (ji40 : Int).toNat 0) := ⟨_, rfl⟩
                replace H : (some (y687, t685, t686)) = some (r1, r2, r3) := by first | (rw [hy687]; with_reducible exact H) | (have H2_ := (Option.bind_some _ _).symm.trans H; rw [hy687]; with_reducible exact H2_) | (have H2_ := (Option.bind_some _ _).symm.trans H; with_reducible exact H2_) | with_reducible exact H | (rw [hy687]; exact H) | exact H
                have Ny687 := Aside0.mk hy687
                clear hy687
                simp only [Option.some.injEq, Prod.mk.injEq] at H
                obtain ⟨rfl, rfl, rfl⟩ := H
                go_wp2_with (first | (refine gA (some 40) Tryz.func61 #[.int .i64 t646, .int .i64 t647] ?_; (with_reducible refine (spec_GaussOf.calls kj2 t646 t647 t663 t664 _ A17.out).mono ?_); rintro e w43 ⟨v665, rfl, ho0, hb⟩; refine ⟨_, rfl, ?_⟩; have n0_ := Aside0.mk (Kd.R_lower ho0 (keep_size (w := w) (g := g) (row := none) (vK HK))); have n1_ := Aside0.mk (IsS94.below (IsS94.vI HI0) hb); have n2_ := Aside0.mk (KeepBut.trans (vK HK) (KeepBut.of_below hb g none) (.inl rfl)); have n3_ := Aside0.mk (below_step (IsS94.vB HB) hb); clear HI0; clear HK; clear HB; have HO666 := n0_; have HI0 := n1_; have HK := n2_; have HB := n3_; clear n0_ n1_ n2_ n3_; (try clear hb ho0); obtain ⟨Ao44, co44, eo44⟩ := Kd.R_slice HO666.out; subst eo44) | (refine gA (some 48) Tryz.func71 #[.slice Ao44 t663.length co44, .int .i64 (wrap64 (t646 + t647))] ?_; (with_reducible refine (spec_RemaindersOf.calls kj2 _ _ t663 (wrap64 (t646 + t647)) t667 t668 _ (uE HO666) ?side2 A18.out).mono ?_); (case side2 => exact (Kd.R_reads' HO666.out).2.1); rintro e w45 ⟨v669, rfl, ho0, hb⟩; refine ⟨_, rfl, ?_⟩; have n0_ := Aside0.mk (Kd.R_elder' (uR HO666) (Kd.R_base ho0) hb); have n1_ := Aside0.mk (Kd.R_lower (Kd.R_new' ho0 (Kd.R_lt (uR HO666))) (keep_size (w := w) (g := g) (row := none) (vK HK))); have n2_ := Aside0.mk (IsS94.below (IsS94.vI HI0) hb); have n3_ := Aside0.mk (KeepBut.trans (vK HK) (KeepBut.of_below hb g none) (.inl rfl)); have n4_ := Aside0.mk (below_step (IsS94.vB HB) hb); clear HO666; clear HI0; clear HK; clear HB; have HO666 := n0_; have HO670 := n1_; have HI0 := n2_; have HK := n3_; have HB := n4_; clear n0_ n1_ n2_ n3_ n4_; (try clear hb ho0)) | (refine gA (some 52) Tryz.func162 #[.pointer (some ⟨g, 0, none⟩), .int .i64 10] ?_; (with_reducible refine (spec_l1Cur_pick.calls g s0_0 x1001_2 x1002_2 10 t671 t672 t673 w0 _ (IsS94.vI HI0) (IsS94.vB HB) A19.out).mono ?_); rintro e w46 ⟨rfl, hi, hb, hk⟩; refine ⟨_, rfl, ?_⟩; have n0_ := Aside0.mk (Kd.R_mono (Kd.R_keep (IsS94.apart (show IsS94 w0 _ g s0_0 x1001_2 x1002_2 from (IsS94.vI HI0)) (uR HO666) (by decide)) hk (fun _ h => h.2)) (fun _ h => h.1)); have n1_ := Aside0.mk (Kd.R_mono (Kd.R_keep (IsS94.apart (show IsS94 w0 _ g s0_0 x1001_2 x1002_2 from (IsS94.vI HI0)) (uR HO670) (by decide)) hk (fun _ h => h.2)) (fun _ h => h.1)); have n2_ := Aside0.mk (KeepBut.trans (vK HK) hk (.inl rfl)); have n3_ := Aside0.mk (hb); have n4_ := Aside0.mk (hi); clear HO666; clear HO670; clear HK; clear HB; clear HI0; have HO666 := n0_; have HO670 := n1_; have HK := n2_; have HB := n3_; have HI0 := n4_; clear n0_ n1_ n2_ n3_ n4_; (try clear hb hk hi)) | (refine gA (some 67) Tryz.func162 #[.pointer (some ⟨g, 0, none⟩), .int .i64 2] ?_; (with_reducible refine (spec_l1Cur_pick.calls g s0_0 t672 t673 2 t684 t685 t686 w0 _ (IsS94.vI HI0) (IsS94.vB HB) A39.out).mono ?_); rintro e w47 ⟨rfl, hi, hb, hk⟩; refine ⟨_, rfl, ?_⟩; have n0_ := Aside0.mk (Kd.R_mono (Kd.R_keep (IsS94.apart (show IsS94 w0 _ g s0_0 t672 t673 from (IsS94.vI HI0)) (uR HO666) (by decide)) hk (fun _ h => h.2)) (fun _ h => h.1)); have n1_ := Aside0.mk (Kd.R_mono (Kd.R_keep (IsS94.apart (show IsS94 w0 _ g s0_0 t672 t673 from (IsS94.vI HI0)) (uR HO670) (by decide)) hk (fun _ h => h.2)) (fun _ h => h.1)); have n2_ := Aside0.mk (KeepBut.trans (vK HK) hk (.inl rfl)); have n3_ := Aside0.mk (hb); have n4_ := Aside0.mk (hi); clear HO666; clear HO670; clear HK; clear HB; clear HI0; have HO666 := n0_; have HO670 := n1_; have HK := n2_; have HB := n3_; have HI0 := n4_; clear n0_ n1_ n2_ n3_ n4_; (try clear hb hk hi)) | ((with_reducible refine gate_dst (N := 69) rfl ?_); refine Kd.R_make (Kd.int .i64) _ 3 rfl (N := 69) rfl 24 _ _ rfl ji40 rfl rfl Tryz.underlying24 (.int .i64 0) 8 info3 rfl (by decide) (by omega) 0 (ok := fun _ => True) (okp := fun _ => True) rfl (fun _ hk => hk) trivial (of_decide_eq_true (by first | (with_reducible assumption) | assumption)) (Nat.le_trans (Nat.mul_le_mul_right _ (of_decide_eq_true (by first | (with_reducible assumption) | assumption) : ji40.toNat ≤ 35184372088832)) (by omega)) (Below.refl _ _) (Nat.le_refl _) ?_; intro v688 w48 ho49 hb hg_ hnew_; clear hg_ hnew_; (first | rw [← Ny687.out] at ho49 | (simp only [Int.reduceToNat] at ho49; rw [← Ny687.out] at ho49)); have n0_ := Aside0.mk (Kd.R_elder' (uR HO666) (Kd.R_base ho49) hb); have n1_ := Aside0.mk (Kd.R_elder' (uR HO670) (Kd.R_base ho49) hb); have n2_ := Aside0.mk (Kd.R_lower (Kd.R_new' (Kd.R_new' ho49 (Kd.R_lt (uR HO666))) (Kd.R_lt (uR HO670))) (keep_size (w := w) (g := g) (row := none) (vK HK))); have n3_ := Aside0.mk (IsS94.below (IsS94.vI HI0) hb); have n4_ := Aside0.mk (KeepBut.trans (vK HK) (KeepBut.of_below hb g none) (.inl rfl)); have n5_ := Aside0.mk (below_step (IsS94.vB HB) hb); clear HO666; clear HO670; clear HI0; clear HK; clear HB; have HO666 := n0_; have HO670 := n1_; have HO689 := n2_; have HI0 := n3_; have HK := n4_; have HB := n5_; clear n0_ n1_ n2_ n3_ n4_ n5_; clear hb ho49))
                go_ret
                exact ⟨_, by first | rfl | (simp [errW_none, errW_some] <;> rfl) | (simp only [← hji40]; first | rfl | (simp [errW_none, errW_some] <;> rfl)) | (simp [*, errW_none, errW_some] <;> rfl), Kd.R_mono (uR HO689) (fun _ hk => trivial), (IsS94.vI HI0), (IsS94.vB HB), (vK HK)⟩
              · rw [if_neg c42] at H
                exact absurd H (by simp)
            · rw [if_neg c41] at H
              exact absurd H (by simp)
          · rw [if_neg c38] at H
            have c38b0 : (t671 == 1) = false := beq_eq_false_iff_ne.mpr c38
            have c38b1 : (t671 != 1) = true := bne_iff_ne.mpr c38
            simp only [Option.some.injEq, Prod.mk.injEq] at H
            obtain ⟨rfl, rfl, rfl⟩ := H
            go_wp2_with (first | (refine gA (some 40) Tryz.func61 #[.int .i64 t646, .int .i64 t647] ?_; (with_reducible refine (spec_GaussOf.calls kj2 t646 t647 t663 t664 _ A17.out).mono ?_); rintro e w50 ⟨v665, rfl, ho0, hb⟩; refine ⟨_, rfl, ?_⟩; have n0_ := Aside0.mk (Kd.R_lower ho0 (keep_size (w := w) (g := g) (row := none) (vK HK))); have n1_ := Aside0.mk (IsS94.below (IsS94.vI HI0) hb); have n2_ := Aside0.mk (KeepBut.trans (vK HK) (KeepBut.of_below hb g none) (.inl rfl)); have n3_ := Aside0.mk (below_step (IsS94.vB HB) hb); clear HI0; clear HK; clear HB; have HO666 := n0_; have HI0 := n1_; have HK := n2_; have HB := n3_; clear n0_ n1_ n2_ n3_; (try clear hb ho0); obtain ⟨Ao51, co51, eo51⟩ := Kd.R_slice HO666.out; subst eo51) | (refine gA (some 48) Tryz.func71 #[.slice Ao51 t663.length co51, .int .i64 (wrap64 (t646 + t647))] ?_; (with_reducible refine (spec_RemaindersOf.calls kj2 _ _ t663 (wrap64 (t646 + t647)) t667 t668 _ (uE HO666) ?side2 A18.out).mono ?_); (case side2 => exact (Kd.R_reads' HO666.out).2.1); rintro e w52 ⟨v669, rfl, ho0, hb⟩; refine ⟨_, rfl, ?_⟩; have n0_ := Aside0.mk (Kd.R_elder' (uR HO666) (Kd.R_base ho0) hb); have n1_ := Aside0.mk (Kd.R_lower (Kd.R_new' ho0 (Kd.R_lt (uR HO666))) (keep_size (w := w) (g := g) (row := none) (vK HK))); have n2_ := Aside0.mk (IsS94.below (IsS94.vI HI0) hb); have n3_ := Aside0.mk (KeepBut.trans (vK HK) (KeepBut.of_below hb g none) (.inl rfl)); have n4_ := Aside0.mk (below_step (IsS94.vB HB) hb); clear HO666; clear HI0; clear HK; clear HB; have HO666 := n0_; have HO670 := n1_; have HI0 := n2_; have HK := n3_; have HB := n4_; clear n0_ n1_ n2_ n3_ n4_; (try clear hb ho0)) | (refine gA (some 52) Tryz.func162 #[.pointer (some ⟨g, 0, none⟩), .int .i64 10] ?_; (with_reducible refine (spec_l1Cur_pick.calls g s0_0 x1001_2 x1002_2 10 t671 t672 t673 w0 _ (IsS94.vI HI0) (IsS94.vB HB) A19.out).mono ?_); rintro e w53 ⟨rfl, hi, hb, hk⟩; refine ⟨_, rfl, ?_⟩; have n0_ := Aside0.mk (Kd.R_mono (Kd.R_keep (IsS94.apart (show IsS94 w0 _ g s0_0 x1001_2 x1002_2 from (IsS94.vI HI0)) (uR HO666) (by decide)) hk (fun _ h => h.2)) (fun _ h => h.1)); have n1_ := Aside0.mk (Kd.R_mono (Kd.R_keep (IsS94.apart (show IsS94 w0 _ g s0_0 x1001_2 x1002_2 from (IsS94.vI HI0)) (uR HO670) (by decide)) hk (fun _ h => h.2)) (fun _ h => h.1)); have n2_ := Aside0.mk (KeepBut.trans (vK HK) hk (.inl rfl)); have n3_ := Aside0.mk (hb); have n4_ := Aside0.mk (hi); clear HO666; clear HO670; clear HK; clear HB; clear HI0; have HO666 := n0_; have HO670 := n1_; have HK := n2_; have HB := n3_; have HI0 := n4_; clear n0_ n1_ n2_ n3_ n4_; (try clear hb hk hi)))
            go_ret
            exact ⟨_, by first | rfl | (simp [errW_none, errW_some] <;> rfl) | (simp [*, errW_none, errW_some] <;> rfl), Kd.R_mono (uR HO670) (fun _ hk => trivial), (IsS94.vI HI0), (IsS94.vB HB), (vK HK)⟩
def spec_DrawValueByRemainders.f (k : Nat) (l0 : List Int) : Option (List Int × Int) := (spec_l1Cur_rests.f k l0 0 0).bind fun bt691 => ((spec_l1Cur_steps.f l0 bt691.2.1 bt691.2.2).bind fun bt696 => (some (bt691.1, bt696.1)))
theorem spec_DrawValueByRemainders.mono : ∀ a0 k, LeO (spec_DrawValueByRemainders.f k a0) (spec_DrawValueByRemainders.f (k + 1) a0) := by
  intro a0 k
  unfold spec_DrawValueByRemainders.f
  repeat' (with_reducible first | apply spec_l1Cur_rests.mono | exact LeO.refl _ | exact LeO.none _ | refine LeO.ite ?_ ?_ | refine LeO.bind ?_ (fun _ => ?_))
set_option maxHeartbeats 8000000 in
set_option maxRecDepth 100000 in
theorem spec_DrawValueByRemainders.calls (k : Nat) (A0 : Option Addr) (c0 : Nat) (l0 : List Int) (r1 : List Int) (r2 : Int) (w : World) (hr0 : Kd.C (Kd.int .u8) w A0 l0.length l0) (hc0 : l0.length ≤ c0) (h : spec_DrawValueByRemainders.f k l0 = some (r1, r2)) :
    Calls Tryz.prog 72 #[.slice A0 l0.length c0] w fun e w' => ∃ v0_ : Value, e = .returned (.tuple #[v0_, .int .i64 r2]) ∧ Kd.R (Kd.int .i64) 3 w' w.heap.size (fun _ => True) v0_ r1 ∧ Below w.heap.size w w' := by
  have hu94 := Tryz.underlying94
  have HR0 := Aside0.mk hr0
  have HC0 := Aside0.mk hc0
  clear hr0 hc0
  have HB := Aside0.mk (Below.refl w.heap.size w)
  have H : ((spec_l1Cur_rests.f k l0 0 0).bind fun bt691 => ((spec_l1Cur_steps.f l0 bt691.2.1 bt691.2.2).bind fun bt696 => (some (bt691.1, bt696.1)))) = some (r1, r2) := h
  clear h
  obtain ⟨⟨t691, t694, t695⟩, A2, H⟩ := bs H; (try dsimp only at H)
  obtain ⟨⟨t696, t697, t698⟩, A3, H⟩ := bs H; (try dsimp only at H)
  simp only [Option.some.injEq, Prod.mk.injEq] at H
  obtain ⟨rfl, rfl⟩ := H
  go_enter Tryz.func72, Tryz.ntmps72
  go_wp2_with (first | ((with_reducible refine gate_dst (N := 7) rfl ?_); refine box_event ?hg (N := 7) ?hd (cs := #[.slice A0 l0.length c0, .int .i64 0, .int .u64 0]) (t := 94) ?hr ?_; (case hd => rfl); (case hg => rfl); (case hr => first | (go_simp; done) | (go_simp; rfl)); intro gb690 hg w4 hbox hb; have n0_ := Aside0.mk (below_step (by repeat (first | (with_reducible first | exact HB.out | apply below_alloc | apply pw_below_drewN | apply below_drew1) | exact HB.out)) hb); have n1_ := Aside0.mk ((⟨_, _, hbox, (by rw [hg]; exact (below_size (by repeat (first | (with_reducible first | exact HB.out | apply below_alloc | apply pw_below_drewN | apply below_drew1) | exact HB.out))) : w.heap.size ≤ gb690), HR0.out⟩ : IsS94 w _ gb690 l0 0 0)); have n2_ := Aside0.mk ((by rw [hg]; exact (below_size (by repeat (first | (with_reducible first | exact HB.out | apply below_alloc | apply pw_below_drewN | apply below_drew1) | exact HB.out))) : w.heap.size ≤ gb690)); have n3_ := Aside0.mk ((by rw [hg]; exact (below_size (by repeat (first | (with_reducible first | exact HB.out | apply below_alloc | apply pw_below_drewN | apply below_drew1) | exact HB.out))) : w.heap.size ≤ gb690)); clear HB; have HB := n0_; have HI690 := n1_; have GW690 := n2_; have GE690 := n3_; clear n0_ n1_ n2_ n3_; clear hb hbox hg) | ((with_reducible refine gate_callee (f := 225) rfl ?_); refine goesL_ (some 9) rfl rfl Tryz.func225 (by kernel_rfl) rfl #[.pointer (some ⟨gb690, 0, none⟩)] rfl (by (try simp only [List.map_toArray, List.map_cons, List.map_nil]); first | done | rfl | (simp only [List.length_drop, List.length_take]; rfl)) ?_; (with_reducible refine (spec_l1Cur_rests.calls k gb690 l0 0 0 t691 t694 t695 w _ ?side1 ?side2 A2.out).mono ?_); (case side1 => repeat (first | (with_reducible first | exact HI690.out | apply IsS94.alloc | apply IsS94.drewN | apply IsS94.drew | apply IsS94.set_1 | apply IsS94.set_2) | exact HI690.out)); (case side2 => repeat (first | (with_reducible first | exact HB.out | apply below_alloc | apply pw_below_drewN | apply below_drew1 | refine below_set ?_ (IsS94.ge HI690.out)) | exact HB.out)); rintro e w5 ⟨v692, rfl, ho0, hi, hb, hk⟩; refine ⟨_, rfl, ?_⟩; have n0_ := Aside0.mk (Kd.R_lower ho0 (below_size (by repeat (first | (with_reducible first | exact HB.out | apply below_alloc | apply pw_below_drewN | apply below_drew1 | refine below_set ?_ (IsS94.ge HI690.out)) | exact HB.out)))); have n1_ := Aside0.mk (hb); have n2_ := Aside0.mk (hi); clear HB; clear HI690; have HO693 := n0_; have HB := n1_; have HI690 := n2_; clear n0_ n1_ n2_; (try clear hb); (try clear hb2); (try clear hk); (try clear hi); (try clear ho0)) | ((with_reducible refine gate_callee (f := 214) rfl ?_); refine goesL_ (some 11) rfl rfl Tryz.func214 (by kernel_rfl) rfl #[.pointer (some ⟨gb690, 0, none⟩)] rfl (by (try simp only [List.map_toArray, List.map_cons, List.map_nil]); first | done | rfl | (simp only [List.length_drop, List.length_take]; rfl)) ?_; (with_reducible refine (spec_l1Cur_steps.calls gb690 l0 t694 t695 t696 t697 t698 w _ ?side1 ?side2 A3.out).mono ?_); (case side1 => repeat (first | (with_reducible first | exact HI690.out | apply IsS94.alloc | apply IsS94.drewN | apply IsS94.drew | apply IsS94.set_1 | apply IsS94.set_2) | exact HI690.out)); (case side2 => repeat (first | (with_reducible first | exact HB.out | apply below_alloc | apply pw_below_drewN | apply below_drew1 | refine below_set ?_ (IsS94.ge HI690.out)) | exact HB.out)); rintro e w6 ⟨rfl, hi, hb, hk⟩; refine ⟨_, rfl, ?_⟩; have n0_ := Aside0.mk (Kd.R_mono (Kd.R_keep (IsS94.apart (show IsS94 w _ gb690 l0 t694 t695 from by repeat (first | (with_reducible first | exact HI690.out | apply IsS94.alloc | apply IsS94.drewN | apply IsS94.drew | apply IsS94.set_1 | apply IsS94.set_2) | exact HI690.out)) (by (with_reducible repeat (first | apply Kd.R_alloc | apply Kd.R_drewN | apply Kd.R_drew)); exact HO693.out) (by decide)) hk (fun _ h => h.2)) (fun _ h => h.1)); have n1_ := Aside0.mk (hb); have n2_ := Aside0.mk (hi); clear HO693; clear HB; clear HI690; have HO693 := n0_; have HB := n1_; have HI690 := n2_; clear n0_ n1_ n2_; (try clear hb); (try clear hb2); (try clear hk); (try clear hi)))
  go_ret2
  exact ⟨_, by first | rfl | (simp [errW_none, errW_some] <;> rfl) | (simp [*, errW_none, errW_some] <;> rfl), uR HO693, (IsS94.vB HB)⟩
def spec_svRests.f (k : Nat) (l0 : List Int) : Option (Bool) := (spec_l1In.f (l0.length : Int) 1 60).bind fun t699 => (if t699 = true then ((spec_l1All.f k l0 0 100000000).bind fun t700 => (some t700)) else (some false))
theorem spec_svRests.mono : ∀ a0 k, LeO (spec_svRests.f k a0) (spec_svRests.f (k + 1) a0) := by
  intro a0 k
  unfold spec_svRests.f
  repeat' (with_reducible first | apply spec_l1All.mono | exact LeO.refl _ | exact LeO.none _ | refine LeO.ite ?_ ?_ | refine LeO.bind ?_ (fun _ => ?_))
set_option maxHeartbeats 8000000 in
set_option maxRecDepth 100000 in
theorem spec_svRests.calls (k : Nat) (A0 : Option Addr) (c0 : Nat) (l0 : List Int) (r : Bool) (w : World) (hr0 : Kd.C (Kd.int .i64) w A0 l0.length l0) (hc0 : l0.length ≤ c0) (h : spec_svRests.f k l0 = some r) :
    Calls Tryz.prog 226 #[.slice A0 l0.length c0] w fun e w' => e = .returned (.bool r) ∧ Drawn0 w w' := by
  have HR0 := Aside0.mk hr0
  have HC0 := Aside0.mk hc0
  clear hr0 hc0
  have H : ((spec_l1In.f (l0.length : Int) 1 60).bind fun t699 => (if t699 = true then ((spec_l1All.f k l0 0 100000000).bind fun t700 => (some t700)) else (some false))) = some r := h
  clear h
  obtain ⟨t699, A2, H⟩ := bs H; (try dsimp only at H)
  by_cases c3 : t699 = true
  · subst c3
    rw [if_pos rfl] at H
    obtain ⟨t700, A4, H⟩ := bs H; (try dsimp only at H)
    obtain rfl := Option.some.inj H
    go_enter Tryz.func226, Tryz.ntmps226
    go_wp2_with (first | (refine gA (some 5) Tryz.func192 #[.int .i64 (l0.length : Int), .int .i64 1, .int .i64 60] ?_; (with_reducible refine (spec_l1In.calls (l0.length : Int) 1 60 true _ A2.out).mono ?_); rintro e w' ⟨rfl, ⟨nd, rfl⟩⟩; refine ⟨_, rfl, ?_⟩) | (go_at_call 224; (with_reducible refine (spec_l1All.calls k _ _ l0 0 100000000 t700 _ (uC HR0) HC0.out A4.out).mono ?_); rintro e w' ⟨rfl, ⟨nd, rfl⟩⟩))
    go_ret
    exact ⟨by first | rfl | (simp; done) | (simp [*]; done), by repeat (first | exact Drawn0.refl _ | apply Drawn0.step)⟩
  · replace c3 := Bool.eq_false_iff.mpr c3
    subst c3
    rw [if_neg (show ¬ (false = true) by decide)] at H
    obtain rfl := Option.some.inj H
    go_enter Tryz.func226, Tryz.ntmps226
    go_wp2_with (first | (refine gA (some 5) Tryz.func192 #[.int .i64 (l0.length : Int), .int .i64 1, .int .i64 60] ?_; (with_reducible refine (spec_l1In.calls (l0.length : Int) 1 60 false _ A2.out).mono ?_); rintro e w' ⟨rfl, ⟨nd, rfl⟩⟩; refine ⟨_, rfl, ?_⟩))
    go_ret
    exact ⟨by first | rfl | (simp; done) | (simp [*]; done), by repeat (first | exact Drawn0.refl _ | apply Drawn0.step)⟩
end Go.Proofs.YtkgngggppcmpfaaGreat.L
end
section
namespace Go.Proofs.YtkgngggppcmpfaaGreat.L
open Go.RowKit Go.Proofs.YtkgngggppcmpfaaGreatW.PrintWords Go.Proofs.YtkgngggppcmpfaaGreatW.PrintLast Go.Proofs.YtkgngggppcmpfaaGreatW.PrintMore
attribute [local go_sem] max2_int min2_int max_two min_two max_three min_three max_four min_four
set_option linter.unusedVariables false
set_option linter.unusedSimpArgs false
def spec_liGcd.l0 : Nat → Int → Int → Option (Int)
  | 0, _, _ => none
  | k + 1, x0, x1 => if x1 > 0 then (if x1 = 0 then (none) else (spec_liGcd.l0 k x1 (Int.tmod x0 x1))) else (some x0)
def spec_liGcd.f (k : Nat) (a0 : Int) (a1 : Int) : Option (Int) := spec_liGcd.l0 k a0 a1
theorem spec_liGcd.mono_l : ∀ k, (∀ y0 y1, LeO (spec_liGcd.l0 k y0 y1) (spec_liGcd.l0 (k + 1) y0 y1))
  | 0 => fun _ _ r h => by simp [spec_liGcd.l0] at h
  | k + 1 => by
    have ih0 := spec_liGcd.mono_l k
    · intro y0 y1
      unfold spec_liGcd.l0
      repeat' first
      | (with_reducible exact ih0 _ _)
      | (with_reducible exact LeO.refl _)
      | (with_reducible exact LeO.none _)
      | (with_reducible refine LeO.ite ?_ ?_)
      | (with_reducible refine LeO.bind ?_ (fun _ => ?_))
      | exact ih0 _ _
      | exact LeO.none _
      | refine LeO.ite ?_ ?_
      | refine LeO.bind ?_ (fun _ => ?_)
theorem spec_liGcd.mono : ∀ a0 a1 k, LeO (spec_liGcd.f k a0 a1) (spec_liGcd.f (k + 1) a0 a1) := by
  intro a0 a1 k
  have ih0 := spec_liGcd.mono_l k
  unfold spec_liGcd.f
  repeat' (with_reducible first | apply ih0 | exact LeO.refl _ | exact LeO.none _ | refine LeO.ite ?_ ?_ | refine LeO.bind ?_ (fun _ => ?_))
set_option maxHeartbeats 8000000 in
set_option maxRecDepth 100000 in
theorem spec_liGcd.calls (k : Nat) (a0 : Int) (a1 : Int) (r : Int) (w : World) (h : spec_liGcd.f k a0 a1 = some r) :
    Calls Tryz.prog 227 #[.int .i64 a0, .int .i64 a1] w fun e w' => e = .returned (.int .i64 r) ∧ Drawn0 w w' := by
  have H : (spec_liGcd.l0 k a0 a1) = some r := h
  clear h
  have H' := Aside0.mk H
  clear H
  go_enter Tryz.func227, Tryz.ntmps227
  go_wp2
  repeat (go_quiet (fail); try go_wp2)
  go_loopg [0, 1] k (fun kq v0 v1 w' => ∃ (x0_1 : Int) (x1_1 : Int), v0 = .int .i64 x0_1 ∧ v1 = .int .i64 x1_1 ∧ Aside0 (spec_liGcd.l0 kq x0_1 x1_1 = some r) ∧ Aside0 (kq ≤ k) ∧ Drawn0 w w')
  case atStart => exact ⟨(a0), (a1), (by first | rfl | (simp; done) | (simp [*]; done)), (by first | rfl | (simp; done) | (simp [*]; done)), H', ⟨Nat.le_refl _⟩, by repeat (first | exact Drawn0.refl _ | apply Drawn0.step)⟩
  case round =>
    clear H'
    skip
    obtain ⟨x0_1, x1_1, rfl, rfl, HA, HK1, ⟨m1, rfl⟩⟩ := hrel
    cases gk with
    | zero => exact absurd HA.out (by simp [spec_liGcd.l0])
    | succ k1 =>
      have H := HA.out
      clear HA
      simp only [spec_liGcd.l0] at H
      by_cases c3 : x1_1 > 0
      · rw [if_pos c3] at H
        have c3b0 := decide_eq_true c3
        clear c3
        by_cases c4 : x1_1 = 0
        · rw [if_pos c4] at H
          exact absurd H (by simp)
        · rw [if_neg c4] at H
          have c4b0 : (x1_1 == 0) = false := beq_eq_false_iff_ne.mpr c4
          have c4b1 : (x1_1 != 0) = true := bne_iff_ne.mpr c4
          have H' := Aside0.mk H
          clear H
          go_wp2
          repeat (go_quiet (fail); try go_wp2)
          go_roundg k1
          case measure => have := HK1.out; omega
          case rel => exact ⟨(x1_1), (Int.tmod x0_1 x1_1), (by first | rfl | (simp; done) | (simp [*]; done)), (by first | rfl | (simp; done) | (simp [*]; done)), H', ⟨by have := HK1.out; omega⟩, by repeat (first | exact Drawn0.refl _ | apply Drawn0.step)⟩
      · rw [if_neg c3] at H
        have c3b0 := decide_eq_false c3
        clear c3
        obtain rfl := Option.some.inj H
        go_wp2
        repeat (go_quiet (fail); try go_wp2)
        go_ret
        exact ⟨by first | rfl | (simp; done) | (simp [*]; done), by repeat (first | exact Drawn0.refl _ | apply Drawn0.step)⟩
def spec_svSign.l0 : Nat → Int → Int → Int → Option (Int)
  | 0, _, _, _ => none
  | k + 1, x0, x3, x4 => if x0 > 1 then (if x4 = 0 then (none) else (if (Int.tmod x0 x4) > 0 then (spec_svSign.l0 k x0 x3 (wrap64 (x4 + 1))) else (if (Int.tmod (wrap64 (Int.tdiv x0 x4)) x4) = 0 then (some 0) else (spec_svSign.l0 k (wrap64 (Int.tdiv x0 x4)) (wrap64 (-x3)) (wrap64 (x4 + 1)))))) else (some x3)
def spec_svSign.f (k : Nat) (a0 : Int) : Option (Int) := spec_svSign.l0 k a0 1 2
theorem spec_svSign.mono_l : ∀ k, (∀ y0 y1 y2, LeO (spec_svSign.l0 k y0 y1 y2) (spec_svSign.l0 (k + 1) y0 y1 y2))
  | 0 => fun _ _ _ r h => by simp [spec_svSign.l0] at h
  | k + 1 => by
    have ih0 := spec_svSign.mono_l k
    · intro y0 y1 y2
      unfold spec_svSign.l0
      repeat' first
      | (with_reducible exact ih0 _ _ _)
      | (with_reducible exact LeO.refl _)
      | (with_reducible exact LeO.none _)
      | (with_reducible refine LeO.ite ?_ ?_)
      | (with_reducible refine LeO.bind ?_ (fun _ => ?_))
      | exact ih0 _ _ _
      | exact LeO.none _
      | refine LeO.ite ?_ ?_
      | refine LeO.bind ?_ (fun _ => ?_)
theorem spec_svSign.mono : ∀ a0 k, LeO (spec_svSign.f k a0) (spec_svSign.f (k + 1) a0) := by
  intro a0 k
  have ih0 := spec_svSign.mono_l k
  unfold spec_svSign.f
  repeat' (with_reducible first | apply ih0 | exact LeO.refl _ | exact LeO.none _ | refine LeO.ite ?_ ?_ | refine LeO.bind ?_ (fun _ => ?_))
set_option maxHeartbeats 8000000 in
set_option maxRecDepth 100000 in
theorem spec_svSign.calls (k : Nat) (a0 : Int) (r : Int) (w : World) (h : spec_svSign.f k a0 = some r) :
    Calls Tryz.prog 305 #[.int .i64 a0] w fun e w' => e = .returned (.int .i64 r) ∧ Drawn0 w w' := by
  have H : (spec_svSign.l0 k a0 1 2) = some r := h
  clear h
  have H' := Aside0.mk H
  clear H
  go_enter Tryz.func305, Tryz.ntmps305
  go_wp2
  go_loopg [0, 3, 4] k (fun kq v0 v3 v4 w' => ∃ (x0_1 : Int) (x3_1 : Int) (x4_1 : Int), v0 = .int .i64 x0_1 ∧ v3 = .int .i64 x3_1 ∧ v4 = .int .i64 x4_1 ∧ Aside0 (spec_svSign.l0 kq x0_1 x3_1 x4_1 = some r) ∧ Aside0 (kq ≤ k) ∧ Drawn0 w w')
  case atStart => exact ⟨(a0), (1), (2), (by first | rfl | (simp; done) | (simp [*]; done)), (by first | rfl | (simp; done) | (simp [*]; done)), (by first | rfl | (simp; done) | (simp [*]; done)), H', ⟨Nat.le_refl _⟩, by repeat (first | exact Drawn0.refl _ | apply Drawn0.step)⟩
  case round =>
    clear H'
    obtain ⟨x0_1, x3_1, x4_1, rfl, rfl, rfl, HA, HK1, ⟨m1, rfl⟩⟩ := hrel
    cases gk with
    | zero => exact absurd HA.out (by simp [spec_svSign.l0])
    | succ k1 =>
      have H := HA.out
      clear HA
      simp only [spec_svSign.l0] at H
      by_cases c2 : x0_1 > 1
      · rw [if_pos c2] at H
        have c2b0 := decide_eq_true c2
        clear c2
        by_cases c3 : x4_1 = 0
        · rw [if_pos c3] at H
          exact absurd H (by simp)
        · rw [if_neg c3] at H
          have c3b0 : (x4_1 == 0) = false := beq_eq_false_iff_ne.mpr c3
          have c3b1 : (x4_1 != 0) = true := bne_iff_ne.mpr c3
          by_cases c4 : (Int.tmod x0_1 x4_1) > 0
          · rw [if_pos c4] at H
            have c4b0 := decide_eq_true c4
            clear c4
            have H' := Aside0.mk H
            clear H
            go_wp2
            go_roundg k1
            case measure => have := HK1.out; omega
            case rel => exact ⟨(x0_1), (x3_1), (wrap64 (x4_1 + 1)), (by first | rfl | (simp; done) | (simp [*]; done)), (by first | rfl | (simp; done) | (simp [*]; done)), (by first | rfl | (simp; done) | (simp [*]; done)), H', ⟨by have := HK1.out; omega⟩, by repeat (first | exact Drawn0.refl _ | apply Drawn0.step)⟩
          · rw [if_neg c4] at H
            have c4b0 := decide_eq_false c4
            clear c4
            by_cases c5 : (Int.tmod (wrap64 (Int.tdiv x0_1 x4_1)) x4_1) = 0
            · rw [if_pos c5] at H
              have c5b0 : ((Int.tmod (wrap64 (Int.tdiv x0_1 x4_1)) x4_1) == 0) = true := beq_iff_eq.mpr c5
              have c5b1 : ((Int.tmod (wrap64 (Int.tdiv x0_1 x4_1)) x4_1) != 0) = false := bne_eq_false_iff_eq.mpr c5
              clear c5
              obtain rfl := Option.some.inj H
              go_wp2
              go_ret
              exact ⟨by first | rfl | (simp; done) | (simp [*]; done), by repeat (first | exact Drawn0.refl _ | apply Drawn0.step)⟩
            · rw [if_neg c5] at H
              have c5b0 : ((Int.tmod (wrap64 (Int.tdiv x0_1 x4_1)) x4_1) == 0) = false := beq_eq_false_iff_ne.mpr c5
              have c5b1 : ((Int.tmod (wrap64 (Int.tdiv x0_1 x4_1)) x4_1) != 0) = true := bne_iff_ne.mpr c5
              have H' := Aside0.mk H
              clear H
              go_wp2
              go_roundg k1
              case measure => have := HK1.out; omega
              case rel => exact ⟨(wrap64 (Int.tdiv x0_1 x4_1)), (wrap64 (-x3_1)), (wrap64 (x4_1 + 1)), (by first | rfl | (simp; done) | (simp [*]; done)), (by first | rfl | (simp; done) | (simp [*]; done)), (by first | rfl | (simp; done) | (simp [*]; done)), H', ⟨by have := HK1.out; omega⟩, by repeat (first | exact Drawn0.refl _ | apply Drawn0.step)⟩
      · rw [if_neg c2] at H
        have c2b0 := decide_eq_false c2
        clear c2
        obtain rfl := Option.some.inj H
        go_wp2
        go_ret
        exact ⟨by first | rfl | (simp; done) | (simp [*]; done), by repeat (first | exact Drawn0.refl _ | apply Drawn0.step)⟩
end Go.Proofs.YtkgngggppcmpfaaGreat.L
end
section
namespace Go.Proofs.YtkgngggppcmpfaaGreat.L
open Go.RowKit Go.Proofs.YtkgngggppcmpfaaGreatW.PrintWords Go.Proofs.YtkgngggppcmpfaaGreatW.PrintLast Go.Proofs.YtkgngggppcmpfaaGreatW.PrintMore Go.Proofs.YtkgngggppcmpfaaGreat.X
attribute [local go_sem] max2_int min2_int max_two min_two max_three min_three max_four min_four
set_option linter.unusedVariables false
set_option linter.unusedSimpArgs false
def spec_svRoots.l0 : Nat → Int → Int → Int → Int → Option (Int)
  | 0, _, _, _, _ => none
  | k + 1, x0, x1, x5, x6 => if x6 ≤ x0 then (if x6 = 0 then (none) else (if (Int.tmod x0 x6) = 0 then (if (Int.tmod x1 x6) = 0 then ((spec_svSign.f k (wrap64 (Int.tdiv x0 x6))).bind fun t701 => (spec_svRoots.l0 k x0 x1 (wrap64 (x5 + (wrap64 (x6 * t701)))) (wrap64 (x6 + 1)))) else (spec_svRoots.l0 k x0 x1 x5 (wrap64 (x6 + 1)))) else (spec_svRoots.l0 k x0 x1 x5 (wrap64 (x6 + 1))))) else (some x5)
def spec_svRoots.f (k : Nat) (a0 : Int) (a1 : Int) : Option (Int) := spec_svRoots.l0 k a0 a1 0 1
theorem spec_svRoots.mono_l : ∀ k, (∀ y0 y1 y2 y3, LeO (spec_svRoots.l0 k y0 y1 y2 y3) (spec_svRoots.l0 (k + 1) y0 y1 y2 y3))
  | 0 => fun _ _ _ _ r h => by simp [spec_svRoots.l0] at h
  | k + 1 => by
    have ih0 := spec_svRoots.mono_l k
    · intro y0 y1 y2 y3
      unfold spec_svRoots.l0
      repeat' first
      | (with_reducible exact ih0 _ _ _ _)
      | (with_reducible exact spec_svSign.mono _ _)
      | (with_reducible exact LeO.refl _)
      | (with_reducible exact LeO.none _)
      | (with_reducible refine LeO.ite ?_ ?_)
      | (with_reducible refine LeO.bind ?_ (fun _ => ?_))
      | exact ih0 _ _ _ _
      | exact spec_svSign.mono _ _
      | exact LeO.none _
      | refine LeO.ite ?_ ?_
      | refine LeO.bind ?_ (fun _ => ?_)
theorem spec_svRoots.mono : ∀ a0 a1 k, LeO (spec_svRoots.f k a0 a1) (spec_svRoots.f (k + 1) a0 a1) := by
  intro a0 a1 k
  have ih0 := spec_svRoots.mono_l k
  unfold spec_svRoots.f
  repeat' (with_reducible first | apply ih0 | apply spec_svSign.mono | exact LeO.refl _ | exact LeO.none _ | refine LeO.ite ?_ ?_ | refine LeO.bind ?_ (fun _ => ?_))
set_option maxHeartbeats 8000000 in
set_option maxRecDepth 100000 in
theorem spec_svRoots.calls (k : Nat) (a0 : Int) (a1 : Int) (r : Int) (w : World) (h : spec_svRoots.f k a0 a1 = some r) :
    Calls Tryz.prog 228 #[.int .i64 a0, .int .i64 a1] w fun e w' => e = .returned (.int .i64 r) ∧ Drawn0 w w' := by
  have H : (spec_svRoots.l0 k a0 a1 0 1) = some r := h
  clear h
  have H' := Aside0.mk H
  clear H
  go_enter Tryz.func228, Tryz.ntmps228
  go_wp2
  go_loopg [5, 6] k (fun kq v5 v6 w' => ∃ (x5_1 : Int) (x6_1 : Int), v5 = .int .i64 x5_1 ∧ v6 = .int .i64 x6_1 ∧ Aside0 (spec_svRoots.l0 kq a0 a1 x5_1 x6_1 = some r) ∧ Aside0 (kq ≤ k) ∧ Drawn0 w w')
  case atStart => exact ⟨(0), (1), (by first | rfl | (simp; done) | (simp [*]; done)), (by first | rfl | (simp; done) | (simp [*]; done)), H', ⟨Nat.le_refl _⟩, by repeat (first | exact Drawn0.refl _ | apply Drawn0.step)⟩
  case round =>
    clear H'
    skip
    obtain ⟨x5_1, x6_1, rfl, rfl, HA, HK1, ⟨m1, rfl⟩⟩ := hrel
    cases gk with
    | zero => exact absurd HA.out (by simp [spec_svRoots.l0])
    | succ k1 =>
      have H := HA.out
      clear HA
      simp only [spec_svRoots.l0] at H
      by_cases c3 : x6_1 ≤ a0
      · rw [if_pos c3] at H
        have c3b0 := decide_eq_true c3
        clear c3
        by_cases c4 : x6_1 = 0
        · rw [if_pos c4] at H
          exact absurd H (by simp)
        · rw [if_neg c4] at H
          have c4b0 : (x6_1 == 0) = false := beq_eq_false_iff_ne.mpr c4
          have c4b1 : (x6_1 != 0) = true := bne_iff_ne.mpr c4
          by_cases c5 : (Int.tmod a0 x6_1) = 0
          · rw [if_pos c5] at H
            have c5b0 : ((Int.tmod a0 x6_1) == 0) = true := beq_iff_eq.mpr c5
            have c5b1 : ((Int.tmod a0 x6_1) != 0) = false := bne_eq_false_iff_eq.mpr c5
            clear c5
            by_cases c6 : (Int.tmod a1 x6_1) = 0
            · rw [if_pos c6] at H
              have c6b0 : ((Int.tmod a1 x6_1) == 0) = true := beq_iff_eq.mpr c6
              have c6b1 : ((Int.tmod a1 x6_1) != 0) = false := bne_eq_false_iff_eq.mpr c6
              clear c6
              obtain ⟨t701, A7, H⟩ := bs H; (try dsimp only at H)
              have H' := Aside0.mk H
              clear H
              go_wp2_with (first | (refine gA (some 27) Tryz.func305 #[.int .i64 (wrap64 (Int.tdiv a0 x6_1))] ?_; (with_reducible refine (spec_svSign.calls k1 (wrap64 (Int.tdiv a0 x6_1)) t701 _ A7.out).mono ?_); rintro e w' ⟨rfl, ⟨nd, rfl⟩⟩; refine ⟨_, rfl, ?_⟩))
              go_roundg k1
              case measure => have := HK1.out; omega
              case rel => exact ⟨(wrap64 (x5_1 + (wrap64 (x6_1 * t701)))), (wrap64 (x6_1 + 1)), (by first | rfl | (simp; done) | (simp [*]; done)), (by first | rfl | (simp; done) | (simp [*]; done)), H', ⟨by have := HK1.out; omega⟩, by repeat (first | exact Drawn0.refl _ | apply Drawn0.step)⟩
            · rw [if_neg c6] at H
              have c6b0 : ((Int.tmod a1 x6_1) == 0) = false := beq_eq_false_iff_ne.mpr c6
              have c6b1 : ((Int.tmod a1 x6_1) != 0) = true := bne_iff_ne.mpr c6
              have H' := Aside0.mk H
              clear H
              go_wp2
              go_roundg k1
              case measure => have := HK1.out; omega
              case rel => exact ⟨(x5_1), (wrap64 (x6_1 + 1)), (by first | rfl | (simp; done) | (simp [*]; done)), (by first | rfl | (simp; done) | (simp [*]; done)), H', ⟨by have := HK1.out; omega⟩, by repeat (first | exact Drawn0.refl _ | apply Drawn0.step)⟩
          · rw [if_neg c5] at H
            have c5b0 : ((Int.tmod a0 x6_1) == 0) = false := beq_eq_false_iff_ne.mpr c5
            have c5b1 : ((Int.tmod a0 x6_1) != 0) = true := bne_iff_ne.mpr c5
            have H' := Aside0.mk H
            clear H
            go_wp2
            go_roundg k1
            case measure => have := HK1.out; omega
            case rel => exact ⟨(x5_1), (wrap64 (x6_1 + 1)), (by first | rfl | (simp; done) | (simp [*]; done)), (by first | rfl | (simp; done) | (simp [*]; done)), H', ⟨by have := HK1.out; omega⟩, by repeat (first | exact Drawn0.refl _ | apply Drawn0.step)⟩
      · rw [if_neg c3] at H
        have c3b0 := decide_eq_false c3
        clear c3
        obtain rfl := Option.some.inj H
        go_wp2
        go_ret
        exact ⟨by first | rfl | (simp; done) | (simp [*]; done), by repeat (first | exact Drawn0.refl _ | apply Drawn0.step)⟩
mutual
def spec_ValueByRemainders.j0 : Nat → List Int → Int → Bool → Option (Int × Bool)
  | 0, _, _, _ => none
  | k + 1, x0, x1, x18 => if x18 = true then (some (0, false)) else (spec_ValueByRemainders.l0 k x0 x1 (x0.length : Int) x0 (x0.length : Int) 0)
def spec_ValueByRemainders.l0 : Nat → List Int → Int → Int → List Int → Int → Int → Option (Int × Bool)
  | 0, _, _, _, _, _, _ => none
  | k + 1, x0, x1, x6, x21, x22, x23 => if x23 < x22 then (if 0 ≤ x23 then (if x23 < (x21.length : Int) then ((spec_liGcd.f k x6 x23).bind fun t705 => (if x6 = 0 then (none) else (if 0 ≤ (Int.tmod t705 x6) then (if (Int.tmod t705 x6) < (x0.length : Int) then (if (rd x21 x23) = (rd x0 (Int.tmod t705 x6)) then (spec_ValueByRemainders.l0 k x0 x1 x6 x21 x22 (wrap64 (x23 + 1))) else (some (0, false))) else (none)) else (none)))) else (none)) else (none)) else (spec_ValueByRemainders.l1 k x0 x1 x6 0 1)
def spec_ValueByRemainders.l1 : Nat → List Int → Int → Int → Int → Int → Option (Int × Bool)
  | 0, _, _, _, _, _ => none
  | k + 1, x0, x1, x6, x9, x10 => if x10 ≤ x6 then (if x10 = 0 then (none) else (if (Int.tmod x6 x10) = 0 then (if x6 = 0 then (none) else (if 0 ≤ (Int.tmod x10 x6) then (if (Int.tmod x10 x6) < (x0.length : Int) then ((spec_svRoots.f k (wrap64 (Int.tdiv x6 x10)) x1).bind fun t708 => (spec_ValueByRemainders.l1 k x0 x1 x6 (wrap64 (x9 + (wrap64 ((rd x0 (Int.tmod x10 x6)) * t708)))) (wrap64 (x10 + 1)))) else (none)) else (none))) else (spec_ValueByRemainders.l1 k x0 x1 x6 x9 (wrap64 (x10 + 1))))) else (some (x9, true))
end
def spec_ValueByRemainders.f (k : Nat) (l0 : List Int) (a1 : Int) : Option (Int × Bool) := (spec_svRests.f k l0).bind fun t702 => (if t702 = true then ((spec_l1In.f a1 0 60).bind fun t703 => (spec_ValueByRemainders.j0 k l0 a1 (!t703))) else (spec_ValueByRemainders.j0 k l0 a1 true))
theorem spec_ValueByRemainders.mono_l : ∀ k, (∀ y0 y1 y2, LeO (spec_ValueByRemainders.j0 k y0 y1 y2) (spec_ValueByRemainders.j0 (k + 1) y0 y1 y2)) ∧ (∀ y0 y1 y2 y3 y4 y5, LeO (spec_ValueByRemainders.l0 k y0 y1 y2 y3 y4 y5) (spec_ValueByRemainders.l0 (k + 1) y0 y1 y2 y3 y4 y5)) ∧ (∀ y0 y1 y2 y3 y4, LeO (spec_ValueByRemainders.l1 k y0 y1 y2 y3 y4) (spec_ValueByRemainders.l1 (k + 1) y0 y1 y2 y3 y4))
  | 0 => ⟨fun _ _ _ r h => by simp [spec_ValueByRemainders.j0] at h, fun _ _ _ _ _ _ r h => by simp [spec_ValueByRemainders.l0] at h, fun _ _ _ _ _ r h => by simp [spec_ValueByRemainders.l1] at h⟩
  | k + 1 => by
    obtain ⟨ih0, ih1, ih2⟩ := spec_ValueByRemainders.mono_l k
    refine ⟨?_, ?_, ?_⟩
    all_goals
      intros
      first | unfold spec_ValueByRemainders.j0 | unfold spec_ValueByRemainders.l0 | unfold spec_ValueByRemainders.l1
      repeat' (with_reducible first | apply ih0 | apply ih1 | apply ih2 | apply spec_liGcd.mono | apply spec_svRests.mono | apply spec_svRoots.mono | exact LeO.refl _ | exact LeO.none _ | refine LeO.ite ?_ ?_ | refine LeO.bind ?_ (fun _ => ?_))
theorem spec_ValueByRemainders.mono : ∀ a0 a1 k, LeO (spec_ValueByRemainders.f k a0 a1) (spec_ValueByRemainders.f (k + 1) a0 a1) := by
  intro a0 a1 k
  obtain ⟨ih0, ih1, ih2⟩ := spec_ValueByRemainders.mono_l k
  unfold spec_ValueByRemainders.f
  repeat' (with_reducible first | apply ih0 | apply ih1 | apply ih2 | apply spec_liGcd.mono | apply spec_svRests.mono | apply spec_svRoots.mono | exact LeO.refl _ | exact LeO.none _ | refine LeO.ite ?_ ?_ | refine LeO.bind ?_ (fun _ => ?_))
set_option maxHeartbeats 8000000 in
set_option maxRecDepth 100000 in
theorem spec_ValueByRemainders.calls (k : Nat) (A0 : Option Addr) (c0 : Nat) (l0 : List Int) (a1 : Int) (r1 : Int) (r2 : Bool) (w : World) (hr0 : Kd.C (Kd.int .i64) w A0 l0.length l0) (hc0 : l0.length ≤ c0) (h : spec_ValueByRemainders.f k l0 a1 = some (r1, r2)) :
    Calls Tryz.prog 73 #[.slice A0 l0.length c0, .int .i64 a1] w fun e w' => e = .returned (.tuple #[.int .i64 r1, .bool r2]) ∧ Drawn0 w w' := by
  have HR0 := Aside0.mk hr0
  have HC0 := Aside0.mk hc0
  clear hr0 hc0
  have H : ((spec_svRests.f k l0).bind fun t702 => (if t702 = true then ((spec_l1In.f a1 0 60).bind fun t703 => (spec_ValueByRemainders.j0 k l0 a1 (!t703))) else (spec_ValueByRemainders.j0 k l0 a1 true))) = some (r1, r2) := h
  clear h
  have HC3 := Aside0.mk H
  clear H
  go_enter Tryz.func73, Tryz.ntmps73
  go_upto_region 1 with (fail)
  repeat (go_quiet (fail); go_upto_region 1 with (fail))
  go_cut [18] (fun v18 wc => ∃ (kq : Nat) (x18_2 : Bool), v18 = .bool x18_2 ∧ Aside0 (spec_ValueByRemainders.j0 kq l0 a1 x18_2 = some (r1, r2)) ∧ Aside0 (kq ≤ k) ∧ Drawn0 w wc)
  case first =>
    have H := HC3.out
    clear HC3
    obtain ⟨t702, A4, H⟩ := bs H; (try dsimp only at H)
    by_cases c5 : t702 = true
    · subst c5
      rw [if_pos rfl] at H
      obtain ⟨t703, A6, H⟩ := bs H; (try dsimp only at H)
      have H' := Aside0.mk H
      clear H
      go_wp2_with (first | (go_at_call 226; (with_reducible refine (spec_svRests.calls k _ _ l0 true _ (uC HR0) HC0.out A4.out).mono ?_); rintro e w' ⟨rfl, ⟨nd, rfl⟩⟩; (try first | exact ⟨rfl, _, World.drewN_drewN _ _ _⟩ | exact ⟨rfl, _, Eq.trans (World.drewN_drewN _ _ _) (congrArg (World.drewN _) (Nat.add_assoc _ _ _))⟩)) | (go_at_call 192; (with_reducible refine (spec_l1In.calls a1 0 60 t703 _ A6.out).mono ?_); rintro e w' ⟨rfl, ⟨nd, rfl⟩⟩; (try first | exact ⟨rfl, _, World.drewN_drewN _ _ _⟩ | exact ⟨rfl, _, Eq.trans (World.drewN_drewN _ _ _) (congrArg (World.drewN _) (Nat.add_assoc _ _ _))⟩)))
      repeat (go_quiet (first | (go_at_call 226; (with_reducible refine (spec_svRests.calls k _ _ l0 true _ (uC HR0) HC0.out A4.out).mono ?_); rintro e w' ⟨rfl, ⟨nd, rfl⟩⟩; (try first | exact ⟨rfl, _, World.drewN_drewN _ _ _⟩ | exact ⟨rfl, _, Eq.trans (World.drewN_drewN _ _ _) (congrArg (World.drewN _) (Nat.add_assoc _ _ _))⟩)) | (go_at_call 192; (with_reducible refine (spec_l1In.calls a1 0 60 t703 _ A6.out).mono ?_); rintro e w' ⟨rfl, ⟨nd, rfl⟩⟩; (try first | exact ⟨rfl, _, World.drewN_drewN _ _ _⟩ | exact ⟨rfl, _, Eq.trans (World.drewN_drewN _ _ _) (congrArg (World.drewN _) (Nat.add_assoc _ _ _))⟩))); try go_wp2_with (first | (go_at_call 226; (with_reducible refine (spec_svRests.calls k _ _ l0 true _ (uC HR0) HC0.out A4.out).mono ?_); rintro e w' ⟨rfl, ⟨nd, rfl⟩⟩; (try first | exact ⟨rfl, _, World.drewN_drewN _ _ _⟩ | exact ⟨rfl, _, Eq.trans (World.drewN_drewN _ _ _) (congrArg (World.drewN _) (Nat.add_assoc _ _ _))⟩)) | (go_at_call 192; (with_reducible refine (spec_l1In.calls a1 0 60 t703 _ A6.out).mono ?_); rintro e w' ⟨rfl, ⟨nd, rfl⟩⟩; (try first | exact ⟨rfl, _, World.drewN_drewN _ _ _⟩ | exact ⟨rfl, _, Eq.trans (World.drewN_drewN _ _ _) (congrArg (World.drewN _) (Nat.add_assoc _ _ _))⟩))))
      go_meet
      case rel => exact ⟨_, (!t703), (by first | rfl | (simp; done) | (simp [*]; done)), H', ⟨by first | omega | exact Nat.le_refl _⟩, by repeat (first | exact Drawn0.refl _ | apply Drawn0.step)⟩
    · replace c5 := Bool.eq_false_iff.mpr c5
      subst c5
      rw [if_neg (show ¬ (false = true) by decide)] at H
      have H' := Aside0.mk H
      clear H
      go_wp2_with (first | (go_at_call 226; (with_reducible refine (spec_svRests.calls k _ _ l0 false _ (uC HR0) HC0.out A4.out).mono ?_); rintro e w' ⟨rfl, ⟨nd, rfl⟩⟩; (try first | exact ⟨rfl, _, World.drewN_drewN _ _ _⟩ | exact ⟨rfl, _, Eq.trans (World.drewN_drewN _ _ _) (congrArg (World.drewN _) (Nat.add_assoc _ _ _))⟩)))
      repeat (go_quiet (first | (go_at_call 226; (with_reducible refine (spec_svRests.calls k _ _ l0 false _ (uC HR0) HC0.out A4.out).mono ?_); rintro e w' ⟨rfl, ⟨nd, rfl⟩⟩; (try first | exact ⟨rfl, _, World.drewN_drewN _ _ _⟩ | exact ⟨rfl, _, Eq.trans (World.drewN_drewN _ _ _) (congrArg (World.drewN _) (Nat.add_assoc _ _ _))⟩))); try go_wp2_with (first | (go_at_call 226; (with_reducible refine (spec_svRests.calls k _ _ l0 false _ (uC HR0) HC0.out A4.out).mono ?_); rintro e w' ⟨rfl, ⟨nd, rfl⟩⟩; (try first | exact ⟨rfl, _, World.drewN_drewN _ _ _⟩ | exact ⟨rfl, _, Eq.trans (World.drewN_drewN _ _ _) (congrArg (World.drewN _) (Nat.add_assoc _ _ _))⟩))))
      go_meet
      case rel => exact ⟨_, (true), (by first | rfl | (simp; done) | (simp [*]; done)), H', ⟨by first | omega | exact Nat.le_refl _⟩, by repeat (first | exact Drawn0.refl _ | apply Drawn0.step)⟩
  case rest =>
    clear HC3
    skip
    obtain ⟨kq, x18_2, rfl, HA, HJ2, ⟨mc2, rfl⟩⟩ := hcut
    cases kq with
    | zero => exact absurd HA.out (by simp [spec_ValueByRemainders.j0])
    | succ kj2 =>
      have H := HA.out
      clear HA
      simp only [spec_ValueByRemainders.j0] at H
      by_cases c7 : x18_2 = true
      · subst c7
        rw [if_pos rfl] at H
        simp only [Option.some.injEq, Prod.mk.injEq] at H
        obtain ⟨rfl, rfl⟩ := H
        go_wp2
        repeat (go_quiet (fail); try go_wp2)
        go_ret2
        exact ⟨by first | rfl | (simp; done) | (simp [*]; done), by repeat (first | exact Drawn0.refl _ | apply Drawn0.step)⟩
      · replace c7 := Bool.eq_false_iff.mpr c7
        subst c7
        rw [if_neg (show ¬ (false = true) by decide)] at H
        have H' := Aside0.mk H
        clear H
        go_wp2
        repeat (go_quiet (fail); try go_wp2)
        go_loopg [23] kj2 (fun kq v23 w' => ∃ (x23_2 : Int), v23 = .int .i64 x23_2 ∧ Aside0 (spec_ValueByRemainders.l0 kq l0 a1 (l0.length : Int) l0 (l0.length : Int) x23_2 = some (r1, r2)) ∧ Aside0 (kq ≤ kj2) ∧ Drawn0 w w')
        case atStart => exact ⟨(0), (by first | rfl | (simp; done) | (simp [*]; done)), H', ⟨Nat.le_refl _⟩, by repeat (first | exact Drawn0.refl _ | apply Drawn0.step)⟩
        case round =>
          clear H'
          skip
          obtain ⟨x23_2, rfl, HA, HK2, ⟨m2, rfl⟩⟩ := hrel
          cases gk with
          | zero => exact absurd HA.out (by simp [spec_ValueByRemainders.l0])
          | succ k2 =>
            have H := HA.out
            clear HA
            simp only [spec_ValueByRemainders.l0] at H
            by_cases c8 : x23_2 < (l0.length : Int)
            · rw [if_pos c8] at H
              have c8b0 := decide_eq_true c8
              clear c8
              by_cases c9 : 0 ≤ x23_2
              · rw [if_pos c9] at H
                have c9b0 := decide_eq_true c9
                clear c9
                by_cases c10 : x23_2 < (l0.length : Int)
                · rw [if_pos c10] at H
                  have c10b0 := decide_eq_true c10
                  clear c10
                  obtain ⟨t705, A11, H⟩ := bs H; (try dsimp only at H)
                  by_cases c12 : (l0.length : Int) = 0
                  · rw [if_pos c12] at H
                    exact absurd H (by simp)
                  · rw [if_neg c12] at H
                    have c12b0 : ((l0.length : Int) == 0) = false := beq_eq_false_iff_ne.mpr c12
                    have c12b1 : ((l0.length : Int) != 0) = true := bne_iff_ne.mpr c12
                    have c12b2 : ¬ (l0 = []) := fun h_ => c12 (by rw [h_]; rfl)
                    obtain ⟨ji13, hji13⟩ : ∃ j_ : Int, (Int.tmod t705 (l0.length : Int)) = j_ := ⟨_, rfl⟩
                    replace H : (if 0 ≤ (ji13) then (if (ji13) < (l0.length : Int) then (if (rd l0 x23_2) = (rd l0 (ji13)) then (spec_ValueByRemainders.l0 k2 l0 a1 (l0.length : Int) l0 (l0.length : Int) (wrap64 (x23_2 + 1))) else (some (0, false))) else (none)) else (none)) = some (r1, r2) := by first | (rw [hji13] at H; exact H) | (simp only [hji13] at H ⊢; exact H)
                    (try rw [hji13] at A11)
                    by_cases c14 : 0 ≤ (ji13)
                    · rw [if_pos c14] at H
                      have c14b0 := decide_eq_true c14
                      clear c14
                      by_cases c15 : (ji13) < (l0.length : Int)
                      · rw [if_pos c15] at H
                        have c15b0 := decide_eq_true c15
                        clear c15
                        by_cases c16 : (rd l0 x23_2) = (rd l0 (ji13))
                        · rw [if_pos c16] at H
                          have c16b0 : ((rd l0 x23_2) == (rd l0 (ji13))) = true := beq_iff_eq.mpr c16
                          have c16b1 : ((rd l0 x23_2) != (rd l0 (ji13))) = false := bne_eq_false_iff_eq.mpr c16
                          clear c16
                          have H' := Aside0.mk H
                          clear H
                          have p704 : 0 ≤ (x23_2 : Int) := of_decide_eq_true (by first | (with_reducible assumption) | assumption)
                          have q704 : x23_2 < (l0.length : Int) := of_decide_eq_true (by first | (with_reducible assumption) | assumption)
                          obtain ⟨ad704, e704, hx704_0⟩ := Kd.at_int HR0.out x23_2 p704 q704
                          cases e704
                          replace p704 := eq_true p704
                          replace q704 := eq_true q704
                          go_wp2_with (first | (go_at_call 227; (with_reducible refine (spec_liGcd.calls k2 (l0.length : Int) x23_2 t705 _ A11.out).mono ?_); rintro e w' ⟨rfl, ⟨nd, rfl⟩⟩; (try first | exact ⟨rfl, _, World.drewN_drewN _ _ _⟩ | exact ⟨rfl, _, Eq.trans (World.drewN_drewN _ _ _) (congrArg (World.drewN _) (Nat.add_assoc _ _ _))⟩); have p706 : 0 ≤ ((ji13) : Int) := of_decide_eq_true (by first | (with_reducible assumption) | assumption); have q706 : (ji13) < (l0.length : Int) := of_decide_eq_true (by first | (with_reducible assumption) | assumption); obtain ⟨ad706, e706, hx706_0⟩ := Kd.at_int HR0.out (ji13) p706 q706; obtain rfl : ad704 = ad706 := (by injection e706); replace p706 := eq_true p706; replace q706 := eq_true q706))
                          repeat (go_quiet (first | (go_at_call 227; (with_reducible refine (spec_liGcd.calls k2 (l0.length : Int) x23_2 t705 _ A11.out).mono ?_); rintro e w' ⟨rfl, ⟨nd, rfl⟩⟩; (try first | exact ⟨rfl, _, World.drewN_drewN _ _ _⟩ | exact ⟨rfl, _, Eq.trans (World.drewN_drewN _ _ _) (congrArg (World.drewN _) (Nat.add_assoc _ _ _))⟩); have p706 : 0 ≤ ((ji13) : Int) := of_decide_eq_true (by first | (with_reducible assumption) | assumption); have q706 : (ji13) < (l0.length : Int) := of_decide_eq_true (by first | (with_reducible assumption) | assumption); obtain ⟨ad706, e706, hx706_0⟩ := Kd.at_int HR0.out (ji13) p706 q706; obtain rfl : ad704 = ad706 := (by injection e706); replace p706 := eq_true p706; replace q706 := eq_true q706)); try go_wp2_with (first | (go_at_call 227; (with_reducible refine (spec_liGcd.calls k2 (l0.length : Int) x23_2 t705 _ A11.out).mono ?_); rintro e w' ⟨rfl, ⟨nd, rfl⟩⟩; (try first | exact ⟨rfl, _, World.drewN_drewN _ _ _⟩ | exact ⟨rfl, _, Eq.trans (World.drewN_drewN _ _ _) (congrArg (World.drewN _) (Nat.add_assoc _ _ _))⟩); have p706 : 0 ≤ ((ji13) : Int) := of_decide_eq_true (by first | (with_reducible assumption) | assumption); have q706 : (ji13) < (l0.length : Int) := of_decide_eq_true (by first | (with_reducible assumption) | assumption); obtain ⟨ad706, e706, hx706_0⟩ := Kd.at_int HR0.out (ji13) p706 q706; obtain rfl : ad704 = ad706 := (by injection e706); replace p706 := eq_true p706; replace q706 := eq_true q706)))
                          go_roundg k2
                          case measure => have := HJ2.out; have := HK2.out; omega
                          case rel => exact ⟨(wrap64 (x23_2 + 1)), (by first | rfl | (simp; done) | (simp [*]; done)), H', ⟨by have := HJ2.out; have := HK2.out; omega⟩, by repeat (first | exact Drawn0.refl _ | apply Drawn0.step)⟩
                        · rw [if_neg c16] at H
                          have c16b0 : ((rd l0 x23_2) == (rd l0 (ji13))) = false := beq_eq_false_iff_ne.mpr c16
                          have c16b1 : ((rd l0 x23_2) != (rd l0 (ji13))) = true := bne_iff_ne.mpr c16
                          simp only [Option.some.injEq, Prod.mk.injEq] at H
                          obtain ⟨rfl, rfl⟩ := H
                          have p704 : 0 ≤ (x23_2 : Int) := of_decide_eq_true (by first | (with_reducible assumption) | assumption)
                          have q704 : x23_2 < (l0.length : Int) := of_decide_eq_true (by first | (with_reducible assumption) | assumption)
                          obtain ⟨ad704, e704, hx704_0⟩ := Kd.at_int HR0.out x23_2 p704 q704
                          cases e704
                          replace p704 := eq_true p704
                          replace q704 := eq_true q704
                          go_wp2_with (first | (go_at_call 227; (with_reducible refine (spec_liGcd.calls k2 (l0.length : Int) x23_2 t705 _ A11.out).mono ?_); rintro e w' ⟨rfl, ⟨nd, rfl⟩⟩; (try first | exact ⟨rfl, _, World.drewN_drewN _ _ _⟩ | exact ⟨rfl, _, Eq.trans (World.drewN_drewN _ _ _) (congrArg (World.drewN _) (Nat.add_assoc _ _ _))⟩); have p706 : 0 ≤ ((ji13) : Int) := of_decide_eq_true (by first | (with_reducible assumption) | assumption); have q706 : (ji13) < (l0.length : Int) := of_decide_eq_true (by first | (with_reducible assumption) | assumption); obtain ⟨ad706, e706, hx706_0⟩ := Kd.at_int HR0.out (ji13) p706 q706; obtain rfl : ad704 = ad706 := (by injection e706); replace p706 := eq_true p706; replace q706 := eq_true q706))
                          repeat (go_quiet (first | (go_at_call 227; (with_reducible refine (spec_liGcd.calls k2 (l0.length : Int) x23_2 t705 _ A11.out).mono ?_); rintro e w' ⟨rfl, ⟨nd, rfl⟩⟩; (try first | exact ⟨rfl, _, World.drewN_drewN _ _ _⟩ | exact ⟨rfl, _, Eq.trans (World.drewN_drewN _ _ _) (congrArg (World.drewN _) (Nat.add_assoc _ _ _))⟩); have p706 : 0 ≤ ((ji13) : Int) := of_decide_eq_true (by first | (with_reducible assumption) | assumption); have q706 : (ji13) < (l0.length : Int) := of_decide_eq_true (by first | (with_reducible assumption) | assumption); obtain ⟨ad706, e706, hx706_0⟩ := Kd.at_int HR0.out (ji13) p706 q706; obtain rfl : ad704 = ad706 := (by injection e706); replace p706 := eq_true p706; replace q706 := eq_true q706)); try go_wp2_with (first | (go_at_call 227; (with_reducible refine (spec_liGcd.calls k2 (l0.length : Int) x23_2 t705 _ A11.out).mono ?_); rintro e w' ⟨rfl, ⟨nd, rfl⟩⟩; (try first | exact ⟨rfl, _, World.drewN_drewN _ _ _⟩ | exact ⟨rfl, _, Eq.trans (World.drewN_drewN _ _ _) (congrArg (World.drewN _) (Nat.add_assoc _ _ _))⟩); have p706 : 0 ≤ ((ji13) : Int) := of_decide_eq_true (by first | (with_reducible assumption) | assumption); have q706 : (ji13) < (l0.length : Int) := of_decide_eq_true (by first | (with_reducible assumption) | assumption); obtain ⟨ad706, e706, hx706_0⟩ := Kd.at_int HR0.out (ji13) p706 q706; obtain rfl : ad704 = ad706 := (by injection e706); replace p706 := eq_true p706; replace q706 := eq_true q706)))
                          go_ret2
                          exact ⟨by first | rfl | (simp; done) | (simp only [← hji13] <;> (first | rfl | simp)) | (simp [*]; done), by repeat (first | exact Drawn0.refl _ | apply Drawn0.step)⟩
                      · rw [if_neg c15] at H
                        exact absurd H (by simp)
                    · rw [if_neg c14] at H
                      exact absurd H (by simp)
                · rw [if_neg c10] at H
                  exact absurd H (by simp)
              · rw [if_neg c9] at H
                exact absurd H (by simp)
            · rw [if_neg c8] at H
              have c8b0 := decide_eq_false c8
              clear c8
              have H' := Aside0.mk H
              clear H
              go_wp2
              repeat (go_quiet (fail); try go_wp2)
              go_loopg [9, 10] k2 (fun kq v9 v10 w' => ∃ (x9_3 : Int) (x10_3 : Int), v9 = .int .i64 x9_3 ∧ v10 = .int .i64 x10_3 ∧ Aside0 (spec_ValueByRemainders.l1 kq l0 a1 (l0.length : Int) x9_3 x10_3 = some (r1, r2)) ∧ Aside0 (kq ≤ k2) ∧ Drawn0 w w')
              case atStart => exact ⟨(0), (1), (by first | rfl | (simp; done) | (simp [*]; done)), (by first | rfl | (simp; done) | (simp [*]; done)), H', ⟨Nat.le_refl _⟩, by repeat (first | exact Drawn0.refl _ | apply Drawn0.step)⟩
              case round =>
                clear H'
                try clear c8b0
                obtain ⟨x9_3, x10_3, rfl, rfl, HA, HK3, ⟨m3, rfl⟩⟩ := hrel
                cases gk with
                | zero => exact absurd HA.out (by simp [spec_ValueByRemainders.l1])
                | succ k3 =>
                  have H := HA.out
                  clear HA
                  simp only [spec_ValueByRemainders.l1] at H
                  by_cases c17 : x10_3 ≤ (l0.length : Int)
                  · rw [if_pos c17] at H
                    have c17b0 := decide_eq_true c17
                    clear c17
                    by_cases c18 : x10_3 = 0
                    · rw [if_pos c18] at H
                      exact absurd H (by simp)
                    · rw [if_neg c18] at H
                      have c18b0 : (x10_3 == 0) = false := beq_eq_false_iff_ne.mpr c18
                      have c18b1 : (x10_3 != 0) = true := bne_iff_ne.mpr c18
                      by_cases c19 : (Int.tmod (l0.length : Int) x10_3) = 0
                      · rw [if_pos c19] at H
                        have c19b0 : ((Int.tmod (l0.length : Int) x10_3) == 0) = true := beq_iff_eq.mpr c19
                        have c19b0e : (((l0.length : Int) % x10_3) == 0) = true := by rw [← Int.tmod_eq_emod_of_nonneg (Int.natCast_nonneg _)]; exact c19b0
                        have c19b1 : ((Int.tmod (l0.length : Int) x10_3) != 0) = false := bne_eq_false_iff_eq.mpr c19
                        have c19b1e : (((l0.length : Int) % x10_3) != 0) = false := by rw [← Int.tmod_eq_emod_of_nonneg (Int.natCast_nonneg _)]; exact c19b1
                        clear c19
                        by_cases c20 : (l0.length : Int) = 0
                        · rw [if_pos c20] at H
                          exact absurd H (by simp)
                        · rw [if_neg c20] at H
                          have c20b0 : ((l0.length : Int) == 0) = false := beq_eq_false_iff_ne.mpr c20
                          have c20b1 : ((l0.length : Int) != 0) = true := bne_iff_ne.mpr c20
                          have c20b2 : ¬ (l0 = []) := fun h_ => c20 (by rw [h_]; rfl)
                          obtain ⟨ji21, hji21⟩ : ∃ j_ : Int, (Int.tmod x10_3 (l0.length : Int)) = j_ := ⟨_, rfl⟩
                          replace H : (if 0 ≤ (ji21) then (if (ji21) < (l0.length : Int) then ((spec_svRoots.f k3 (wrap64 (Int.tdiv (l0.length : Int) x10_3)) a1).bind fun t708 => (spec_ValueByRemainders.l1 k3 l0 a1 (l0.length : Int) (wrap64 (x9_3 + (wrap64 ((rd l0 (ji21)) * t708)))) (wrap64 (x10_3 + 1)))) else (none)) else (none)) = some (r1, r2) := by first | (rw [hji21] at H; exact H) | (simp only [hji21] at H ⊢; exact H)
                          by_cases c22 : 0 ≤ (ji21)
                          · rw [if_pos c22] at H
                            have c22b0 := decide_eq_true c22
                            clear c22
                            by_cases c23 : (ji21) < (l0.length : Int)
                            · rw [if_pos c23] at H
                              have c23b0 := decide_eq_true c23
                              clear c23
                              obtain ⟨t708, A24, H⟩ := bs H; (try dsimp only at H)
                              have H' := Aside0.mk H
                              clear H
                              have p707 : 0 ≤ ((ji21) : Int) := of_decide_eq_true (by first | (with_reducible assumption) | assumption)
                              have q707 : (ji21) < (l0.length : Int) := of_decide_eq_true (by first | (with_reducible assumption) | assumption)
                              obtain ⟨ad707, e707, hx707_0⟩ := Kd.at_int HR0.out (ji21) p707 q707
                              cases e707
                              replace p707 := eq_true p707
                              replace q707 := eq_true q707
                              go_wp2_with (first | (go_at_call 228; (first | (with_reducible refine (spec_svRoots.calls k3 (wrap64 (Int.tdiv (l0.length : Int) x10_3)) a1 t708 _ A24.out).mono ?_) | (refine (spec_svRoots.calls k3 (wrap64 ((l0.length : Int) / x10_3)) a1 t708 _ (by rw [← Int.tdiv_eq_ediv_of_nonneg (Int.natCast_nonneg _)]; exact A24.out)).mono ?_)); rintro e w' ⟨rfl, ⟨nd, rfl⟩⟩; (try first | exact ⟨rfl, _, World.drewN_drewN _ _ _⟩ | exact ⟨rfl, _, Eq.trans (World.drewN_drewN _ _ _) (congrArg (World.drewN _) (Nat.add_assoc _ _ _))⟩)))
                              repeat (go_quiet (first | (go_at_call 228; (first | (with_reducible refine (spec_svRoots.calls k3 (wrap64 (Int.tdiv (l0.length : Int) x10_3)) a1 t708 _ A24.out).mono ?_) | (refine (spec_svRoots.calls k3 (wrap64 ((l0.length : Int) / x10_3)) a1 t708 _ (by rw [← Int.tdiv_eq_ediv_of_nonneg (Int.natCast_nonneg _)]; exact A24.out)).mono ?_)); rintro e w' ⟨rfl, ⟨nd, rfl⟩⟩; (try first | exact ⟨rfl, _, World.drewN_drewN _ _ _⟩ | exact ⟨rfl, _, Eq.trans (World.drewN_drewN _ _ _) (congrArg (World.drewN _) (Nat.add_assoc _ _ _))⟩))); try go_wp2_with (first | (go_at_call 228; (first | (with_reducible refine (spec_svRoots.calls k3 (wrap64 (Int.tdiv (l0.length : Int) x10_3)) a1 t708 _ A24.out).mono ?_) | (refine (spec_svRoots.calls k3 (wrap64 ((l0.length : Int) / x10_3)) a1 t708 _ (by rw [← Int.tdiv_eq_ediv_of_nonneg (Int.natCast_nonneg _)]; exact A24.out)).mono ?_)); rintro e w' ⟨rfl, ⟨nd, rfl⟩⟩; (try first | exact ⟨rfl, _, World.drewN_drewN _ _ _⟩ | exact ⟨rfl, _, Eq.trans (World.drewN_drewN _ _ _) (congrArg (World.drewN _) (Nat.add_assoc _ _ _))⟩))))
                              go_roundg k3
                              case measure => have := HJ2.out; have := HK2.out; have := HK3.out; omega
                              case rel => exact ⟨(wrap64 (x9_3 + (wrap64 ((rd l0 (ji21)) * t708)))), (wrap64 (x10_3 + 1)), (by first | rfl | (simp; done) | (simp only [← hji21] <;> (first | rfl | simp)) | (simp [*]; done)), (by first | rfl | (simp; done) | (simp [*]; done)), H', ⟨by have := HJ2.out; have := HK2.out; have := HK3.out; omega⟩, by repeat (first | exact Drawn0.refl _ | apply Drawn0.step)⟩
                            · rw [if_neg c23] at H
                              exact absurd H (by simp)
                          · rw [if_neg c22] at H
                            exact absurd H (by simp)
                      · rw [if_neg c19] at H
                        have c19b0 : ((Int.tmod (l0.length : Int) x10_3) == 0) = false := beq_eq_false_iff_ne.mpr c19
                        have c19b0e : (((l0.length : Int) % x10_3) == 0) = false := by rw [← Int.tmod_eq_emod_of_nonneg (Int.natCast_nonneg _)]; exact c19b0
                        have c19b1 : ((Int.tmod (l0.length : Int) x10_3) != 0) = true := bne_iff_ne.mpr c19
                        have c19b1e : (((l0.length : Int) % x10_3) != 0) = true := by rw [← Int.tmod_eq_emod_of_nonneg (Int.natCast_nonneg _)]; exact c19b1
                        have H' := Aside0.mk H
                        clear H
                        go_wp2
                        repeat (go_quiet (fail); try go_wp2)
                        go_roundg k3
                        case measure => have := HJ2.out; have := HK2.out; have := HK3.out; omega
                        case rel => exact ⟨(x9_3), (wrap64 (x10_3 + 1)), (by first | rfl | (simp; done) | (simp [*]; done)), (by first | rfl | (simp; done) | (simp [*]; done)), H', ⟨by have := HJ2.out; have := HK2.out; have := HK3.out; omega⟩, by repeat (first | exact Drawn0.refl _ | apply Drawn0.step)⟩
                  · rw [if_neg c17] at H
                    have c17b0 := decide_eq_false c17
                    clear c17
                    simp only [Option.some.injEq, Prod.mk.injEq] at H
                    obtain ⟨rfl, rfl⟩ := H
                    go_wp2
                    repeat (go_quiet (fail); try go_wp2)
                    go_ret2
                    exact ⟨by first | rfl | (simp; done) | (simp [*]; done), by repeat (first | exact Drawn0.refl _ | apply Drawn0.step)⟩
end Go.Proofs.YtkgngggppcmpfaaGreat.L
end
section
namespace Go.Proofs.YtkgngggppcmpfaaGreat.L
open Go.RowKit Go.Proofs.YtkgngggppcmpfaaGreatW.PrintWords Go.Proofs.YtkgngggppcmpfaaGreatW.PrintLast Go.Proofs.YtkgngggppcmpfaaGreatW.PrintMore
attribute [local go_sem] max2_int min2_int max_two min_two max_three min_three max_four min_four
set_option linter.unusedVariables false
set_option linter.unusedSimpArgs false
def laws_oSum.l0 : Nat → Int → List Int → Int → Int → Option (Int)
  | 0, _, _, _, _ => none
  | k + 1, x3, x6, x7, x8 => if x8 < x7 then (if 0 ≤ x8 then (if x8 < (x6.length : Int) then (laws_oSum.l0 k (wrap64 (x3 + (rd x6 x8))) x6 x7 (wrap64 (x8 + 1))) else (none)) else (none)) else (some x3)
def laws_oSum.f (k : Nat) (l0 : List Int) : Option (Int) := laws_oSum.l0 k 0 l0 (l0.length : Int) 0
theorem laws_oSum.mono_l : ∀ k, (∀ y0 y1 y2 y3, LeO (laws_oSum.l0 k y0 y1 y2 y3) (laws_oSum.l0 (k + 1) y0 y1 y2 y3))
  | 0 => fun _ _ _ _ r h => by simp [laws_oSum.l0] at h
  | k + 1 => by
    have ih0 := laws_oSum.mono_l k
    · intro y0 y1 y2 y3
      unfold laws_oSum.l0
      repeat' first
      | (with_reducible exact ih0 _ _ _ _)
      | (with_reducible exact LeO.refl _)
      | (with_reducible exact LeO.none _)
      | (with_reducible refine LeO.ite ?_ ?_)
      | (with_reducible refine LeO.bind ?_ (fun _ => ?_))
      | exact ih0 _ _ _ _
      | exact LeO.none _
      | refine LeO.ite ?_ ?_
      | refine LeO.bind ?_ (fun _ => ?_)
theorem laws_oSum.mono : ∀ a0 k, LeO (laws_oSum.f k a0) (laws_oSum.f (k + 1) a0) := by
  intro a0 k
  have ih0 := laws_oSum.mono_l k
  unfold laws_oSum.f
  repeat' (with_reducible first | apply ih0 | exact LeO.refl _ | exact LeO.none _ | refine LeO.ite ?_ ?_ | refine LeO.bind ?_ (fun _ => ?_))
set_option maxHeartbeats 8000000 in
set_option maxRecDepth 100000 in
theorem laws_oSum.calls (k : Nat) (A0 : Option Addr) (c0 : Nat) (l0 : List Int) (r : Int) (w : World) (hr0 : Kd.C (Kd.int .i64) w A0 l0.length l0) (hc0 : l0.length ≤ c0) (h : laws_oSum.f k l0 = some r) :
    Calls Tryz.prog 74 #[.slice A0 l0.length c0] w fun e w' => e = .returned (.int .i64 r) ∧ Drawn0 w w' := by
  have HR0 := Aside0.mk hr0
  have HC0 := Aside0.mk hc0
  clear hr0 hc0
  have H : (laws_oSum.l0 k 0 l0 (l0.length : Int) 0) = some r := h
  clear h
  have H' := Aside0.mk H
  clear H
  go_enter Tryz.func74, Tryz.ntmps74
  go_wp2
  go_loopg [3, 8] k (fun kq v3 v8 w' => ∃ (x3_1 : Int) (x8_1 : Int), v3 = .int .i64 x3_1 ∧ v8 = .int .i64 x8_1 ∧ Aside0 (laws_oSum.l0 kq x3_1 l0 (l0.length : Int) x8_1 = some r) ∧ Aside0 (kq ≤ k) ∧ Drawn0 w w')
  case atStart => exact ⟨(0), (0), (by first | rfl | (simp; done) | (simp [*]; done)), (by first | rfl | (simp; done) | (simp [*]; done)), H', ⟨Nat.le_refl _⟩, by repeat (first | exact Drawn0.refl _ | apply Drawn0.step)⟩
  case round =>
    clear H'
    obtain ⟨x3_1, x8_1, rfl, rfl, HA, HK1, ⟨m1, rfl⟩⟩ := hrel
    cases gk with
    | zero => exact absurd HA.out (by simp [laws_oSum.l0])
    | succ k1 =>
      have H := HA.out
      clear HA
      simp only [laws_oSum.l0] at H
      by_cases c2 : x8_1 < (l0.length : Int)
      · rw [if_pos c2] at H
        have c2b0 := decide_eq_true c2
        clear c2
        by_cases c3 : 0 ≤ x8_1
        · rw [if_pos c3] at H
          have c3b0 := decide_eq_true c3
          clear c3
          by_cases c4 : x8_1 < (l0.length : Int)
          · rw [if_pos c4] at H
            have c4b0 := decide_eq_true c4
            clear c4
            have H' := Aside0.mk H
            clear H
            have p709 : 0 ≤ (x8_1 : Int) := of_decide_eq_true (by first | (with_reducible assumption) | assumption)
            have q709 : x8_1 < (l0.length : Int) := of_decide_eq_true (by first | (with_reducible assumption) | assumption)
            obtain ⟨ad709, e709, hx709_0⟩ := Kd.at_int HR0.out x8_1 p709 q709
            cases e709
            replace p709 := eq_true p709
            replace q709 := eq_true q709
            go_wp2
            go_roundg k1
            case measure => have := HK1.out; omega
            case rel => exact ⟨(wrap64 (x3_1 + (rd l0 x8_1))), (wrap64 (x8_1 + 1)), (by first | rfl | (simp; done) | (simp [*]; done)), (by first | rfl | (simp; done) | (simp [*]; done)), H', ⟨by have := HK1.out; omega⟩, by repeat (first | exact Drawn0.refl _ | apply Drawn0.step)⟩
          · rw [if_neg c4] at H
            exact absurd H (by simp)
        · rw [if_neg c3] at H
          exact absurd H (by simp)
      · rw [if_neg c2] at H
        have c2b0 := decide_eq_false c2
        clear c2
        obtain rfl := Option.some.inj H
        go_wp2
        go_ret
        exact ⟨by first | rfl | (simp; done) | (simp [*]; done), by repeat (first | exact Drawn0.refl _ | apply Drawn0.step)⟩
def impl_IsSieved.p (n : Int) : Bool := !(decide (1 ≤ n) && decide (n ≤ 60))
def impl_IsSieved.g (r n : Int) : Int := if Int.tmod r n = 0 then 1 else 0
def impl_IsSieved.ok (l0 l1 : List Int) : Bool := (List.range l0.length).all fun i => rd l0 (i : Int) == Go.Proofs.YtkgngggppcmpfaaGreat.X.sumF (impl_IsSieved.g (i : Int)) l1
def impl_IsSieved.f (l0 : List Int) (l1 : List Int) : Option (Bool × Bool) := (impl_areRests.f l0).bind fun t => if t = true then (if (l1.length : Int) > 1000 then some (false, false) else if l1.any impl_IsSieved.p = true then some (false, false) else if l0.length ≤ 9223372036854775806 then some (impl_IsSieved.ok l0 l1, true) else none) else some (false, false)
open Go.Proofs.YtkgngggppcmpfaaGreat.X in
set_option maxHeartbeats 400000 in
theorem impl_IsSieved.lit1 (n : Int) (w : World) : Fv Tryz.prog 230 #[] #[.int .i64 n] (.bool (impl_IsSieved.p n)) w := by
  intro W hb
  obtain ⟨b, HW, hp⟩ : ∃ b, impl_isTurn.f n = some b ∧ impl_IsSieved.p n = !b := ⟨decide (1 ≤ n) && decide (n ≤ 60), by unfold impl_isTurn.f impl_within.f; by_cases h : 1 ≤ n <;> simp [h], rfl⟩
  rw [hp]
  have HA := Aside0.mk HW
  clear HW hp
  go_enter Tryz.func230, Tryz.ntmps230
  go_wp2_with (go_at_call 217; (with_reducible refine (impl_isTurn.calls n b _ HA.out).mono ?_); rintro e w' ⟨rfl, ⟨nd, rfl⟩⟩)
  go_ret
  exact ⟨rfl, pw_below_drewN (Below.refl _ _) _⟩
open Go.Proofs.YtkgngggppcmpfaaGreat.X in
set_option maxHeartbeats 400000 in
theorem impl_IsSieved.lit2 (r n : Int) (B : Nat) (w : World) (hB : B < w.heap.size) (hc : w.cell? ⟨B, 0, none⟩ = some (.int .i64 r)) (hn : n ≠ 0) :
    Fv Tryz.prog 231 #[.pointer (some ⟨B, 0, none⟩)] #[.int .i64 n] (.int .i64 (impl_IsSieved.g r n)) w := by
  intro W hb
  have hc' : W.cell? ⟨B, 0, none⟩ = some (.int .i64 r) := (hb.cell (p := ⟨B, 0, none⟩) hB).trans hc
  unfold impl_IsSieved.g
  clear hc hB hb
  by_cases hz : Int.tmod r n = 0
  · rw [if_pos hz]
    go_enter Tryz.func231, Tryz.ntmps231
    go_wp2
    go_ret
    exact ⟨rfl, by first | exact Below.refl _ _ | exact pw_below_drewN (Below.refl _ _) _⟩
  · rw [if_neg hz]
    go_enter Tryz.func231, Tryz.ntmps231
    go_wp2
    go_ret
    exact ⟨rfl, by first | exact Below.refl _ _ | exact pw_below_drewN (Below.refl _ _) _⟩
open Go.Proofs.YtkgngggppcmpfaaGreat.X in
set_option maxHeartbeats 1600000 in
set_option maxRecDepth 100000 in
theorem impl_IsSieved.main (A0 : Option Addr) (c0 : Nat) (l0 : List Int) (A1 : Option Addr) (c1 : Nat) (l1 : List Int) (r1 : Bool) (w : World) (HR : Aside0 (Kd.C (Kd.int .i64) w A0 l0.length l0)) (HC : Aside0 (l0.length ≤ c0)) (HR1 : Aside0 (Kd.C (Kd.int .i64) w A1 l1.length l1))
    (HT : Aside0 (impl_areRests.f l0 = some true)) (HL : Aside0 (l1.length ≤ 9223372036854775806)) (hm1 : decide ((l1.length : Int) > 1000) = false) (hm2 : decide ((1000 : Int) < (l1.length : Int)) = false) (AN : Aside0 (false = l1.any impl_IsSieved.p)) (L0 : Aside0 (l0.length ≤ 9223372036854775806)) (OK : Aside0 (impl_IsSieved.ok l0 l1 = r1)) (NZ : Aside0 (∀ x, x ∈ l1 → x ≠ 0)) :
    Calls Tryz.prog 76 #[.slice A0 l0.length c0, .slice A1 l1.length c1] w fun e w' => e = .returned (.tuple #[.bool r1, .bool true]) ∧ Below w.heap.size w w' := by
  go_enter Tryz.func76, Tryz.ntmps76
  go_wp2_with fail
  refine (impl_areRests.calls _ _ l0 true _ HR.out HC.out HT.out).mono ?_
  rintro e w1 ⟨rfl, hb⟩
  have B1 := Aside0.mk hb
  clear hb
  go_wp2_with fail
  refine (slices_ContainsFunc.calls A1 c1 l1 230 #[] impl_IsSieved.p _ (enters_ Tryz.func230 (by kernel_rfl) rfl) (Kd.C_below HR1.out B1.out) HL.out (fun x _ => impl_IsSieved.lit1 x _)).mono ?_
  rintro e w2 ⟨rfl, hb⟩
  rw [← AN.out]
  have B2 := Aside0.mk (below_to B1.out hb)
  clear hb
  go_wp2
  go_loopw [22] (fun v22 wr => ∃ k : Nat, k ≤ l0.length ∧ v22 = .int .i64 k ∧ Aside0 (∀ i : Nat, i < k → rd l0 (i : Int) = sumF (impl_IsSieved.g (i : Int)) l1) ∧ Aside0 (Below w.heap.size w wr)) (fun v22 _ => l0.length - (intOf v22).toNat)
  case atStart => exact ⟨0, Nat.zero_le _, rfl, ⟨fun i hi => absurd hi (Nat.not_lt_zero _)⟩, ⟨B2.out⟩⟩
  case round =>
    obtain ⟨k, hk, rfl, HI, HB⟩ := hrel
    by_cases hlt : k < l0.length
    · have p1 : 0 ≤ ((k : Nat) : Int) := by omega
      have q1 : ((k : Nat) : Int) < (l0.length : Int) := by omega
      obtain ⟨ad, e1, hx⟩ := Kd.at_int (Kd.C_below HR.out HB.out) k p1 q1
      rw [Int.toNat_natCast] at hx
      cases e1
      obtain ⟨u, hu⟩ : ∃ u, u = rd l0 (k : Int) := ⟨_, rfl⟩
      rw [← hu] at hx
      have HU := Aside0.mk hu
      clear hu
      go_wp2_with fail
      refine (impl_sum.calls A1 c1 l1 231 #[.pointer (some ⟨wr.heap.size, 0, none⟩)] (impl_IsSieved.g (k : Int)) _ (enters_ Tryz.func231 (by kernel_rfl) rfl) (Kd.C_alloc (Kd.C_below HR1.out HB.out) _) HL.out (fun x hx2 => impl_IsSieved.lit2 (k : Int) x _ _ (by simp) (by simp) (NZ.out x hx2))).mono ?_
      rintro e w3 ⟨rfl, hb⟩
      have B3 := Aside0.mk (below_to (below_alloc HB.out _) hb)
      clear hb
      obtain ⟨s, hs⟩ : ∃ s, s = sumF (impl_IsSieved.g (k : Int)) l1 := ⟨_, rfl⟩
      rw [← hs]
      have HS := Aside0.mk hs
      clear hs
      by_cases hq : u = s
      · subst hq
        have e2 : wrap64 ((k : Int) + 1) = ((k + 1 : Nat) : Int) := by have hl0 := L0.out; unfold wrap64; omega
        go_wp2
        (try simp only [e2])
        clear e2
        go_roundw
        case rel => exact ⟨k + 1, by omega, by first | rfl | go_num, ⟨fun i hi => by
          by_cases c : i = k
          · subst c; rw [← HU.out, HS.out]
          · exact HI.out i (by omega)⟩, ⟨B3.out⟩⟩
        case measure => exact (Nat.sub_lt_sub_left (by omega) (Nat.lt_succ_self k) : l0.length - (k + 1) < l0.length - k)
      · have hq1 : decide (u = s) = false := decide_eq_false hq
        have hq2 : (u == s) = false := beq_eq_false_iff_ne.mpr hq
        have hq3 : (u != s) = true := by rw [bne, hq2]; rfl
        have HQ := Aside0.mk hq
        clear hq
        go_wp2
        go_ret2
        refine ⟨?_, B3.out⟩
        have e1 : r1 = false := by
          rw [← OK.out]
          unfold impl_IsSieved.ok
          rw [List.all_eq_false]
          exact ⟨k, List.mem_range.mpr hlt, by rw [← HU.out, ← HS.out, hq2]; simp⟩
        rw [e1]; rfl
    · go_wp2
      go_ret2
      refine ⟨?_, HB.out⟩
      have e1 : r1 = true := by
        rw [← OK.out]
        unfold impl_IsSieved.ok
        rw [List.all_eq_true]
        intro i hi
        rw [HI.out i (by have := List.mem_range.mp hi; omega), beq_self_eq_true]
      rw [e1]; rfl
open Go.Proofs.YtkgngggppcmpfaaGreat.X in
set_option maxHeartbeats 1600000 in
set_option maxRecDepth 100000 in
theorem impl_IsSieved.calls (A0 : Option Addr) (c0 : Nat) (l0 : List Int) (A1 : Option Addr) (c1 : Nat) (l1 : List Int) (r1 : Bool) (r2 : Bool) (w : World) (hr0 : Kd.C (Kd.int .i64) w A0 l0.length l0) (hc0 : l0.length ≤ c0) (hr1 : Kd.C (Kd.int .i64) w A1 l1.length l1) (hc1 : l1.length ≤ c1) (h : impl_IsSieved.f l0 l1 = some (r1, r2)) :
    Calls Tryz.prog 76 #[.slice A0 l0.length c0, .slice A1 l1.length c1] w fun e w' => e = .returned (.tuple #[.bool r1, .bool r2]) ∧ Below w.heap.size w w' := by
  have HR := Aside0.mk hr0
  have HC := Aside0.mk hc0
  have HR1 := Aside0.mk hr1
  clear hr0 hc0 hr1 hc1
  unfold impl_IsSieved.f at h
  obtain ⟨t, ht, h⟩ := Option.bind_eq_some_iff.mp h
  have HT := Aside0.mk ht
  clear ht
  cases t with
  | false =>
    have h' : some (false, false) = some (r1, r2) := h
    injection h' with h'
    injection h' with h1 h2
    subst h1 h2
    clear h
    go_enter Tryz.func76, Tryz.ntmps76
    go_wp2_with (go_at_call 218; (with_reducible refine (impl_areRests.calls _ _ l0 false _ HR.out HC.out HT.out).mono ?_); rintro e w1 ⟨rfl, hb⟩)
    go_ret2
    exact ⟨rfl, hb⟩
  | true =>
    rw [if_pos rfl] at h
    by_cases hm : (l1.length : Int) > 1000
    · rw [if_pos hm] at h
      injection h with h
      injection h with h1 h2
      subst h1 h2
      have hm1 : decide ((l1.length : Int) > 1000) = true := decide_eq_true hm
      have hm2 : decide ((1000 : Int) < (l1.length : Int)) = true := decide_eq_true hm
      clear hm
      go_enter Tryz.func76, Tryz.ntmps76
      go_wp2_with (go_at_call 218; (with_reducible refine (impl_areRests.calls _ _ l0 true _ HR.out HC.out HT.out).mono ?_); rintro e w1 ⟨rfl, hb⟩)
      go_ret2
      exact ⟨rfl, hb⟩
    · rw [if_neg hm] at h
      have HL := Aside0.mk (show l1.length ≤ 9223372036854775806 by omega)
      have hm1 : decide ((l1.length : Int) > 1000) = false := decide_eq_false hm
      have hm2 : decide ((1000 : Int) < (l1.length : Int)) = false := decide_eq_false hm
      clear hm
      obtain ⟨an, han⟩ : ∃ an, an = l1.any impl_IsSieved.p := ⟨_, rfl⟩
      have AN := Aside0.mk han
      rw [← han] at h
      clear han
      cases an with
      | true =>
        rw [if_pos rfl] at h
        injection h with h
        injection h with h1 h2
        subst h1 h2
        go_enter Tryz.func76, Tryz.ntmps76
        go_wp2_with fail
        refine (impl_areRests.calls _ _ l0 true _ HR.out HC.out HT.out).mono ?_
        rintro e w1 ⟨rfl, hb⟩
        have B1 := Aside0.mk hb
        clear hb
        go_wp2_with fail
        refine (slices_ContainsFunc.calls A1 c1 l1 230 #[] impl_IsSieved.p _ (enters_ Tryz.func230 (by kernel_rfl) rfl) (Kd.C_below HR1.out B1.out) HL.out (fun x _ => impl_IsSieved.lit1 x _)).mono ?_
        rintro e w2 ⟨rfl, hb⟩
        rw [← AN.out]
        have B2 := Aside0.mk (below_to B1.out hb)
        clear hb
        go_wp2
        go_ret2
        exact ⟨rfl, B2.out⟩
      | false =>
        rw [if_neg (by simp)] at h
        split at h
        · rename_i hl0
          injection h with h
          injection h with h1 h2
          have L0 := Aside0.mk hl0
          have OK := Aside0.mk h1
          subst h2
          clear h1 hl0
          have NZ := Aside0.mk (show ∀ x, x ∈ l1 → x ≠ 0 from fun x hx e => by
            have := AN.out
            rw [eq_comm, List.any_eq_false] at this
            have h3 := this x hx
            rw [e] at h3
            exact h3 rfl)
          exact impl_IsSieved.main A0 c0 l0 A1 c1 l1 r1 w HR HC HR1 HT HL hm1 hm2 AN L0 OK NZ
        · exact absurd h (by simp)
end Go.Proofs.YtkgngggppcmpfaaGreat.L
end
section
namespace Go.Proofs.YtkgngggppcmpfaaGreat.L
open Go.RowKit Go.Proofs.YtkgngggppcmpfaaGreatW.PrintWords Go.Proofs.YtkgngggppcmpfaaGreatW.PrintLast Go.Proofs.YtkgngggppcmpfaaGreatW.PrintMore Go.Proofs.YtkgngggppcmpfaaGreat.X
attribute [local go_sem] max2_int min2_int max_two min_two max_three min_three max_four min_four
set_option linter.unusedVariables false
set_option linter.unusedSimpArgs false
def impl_isBound.f (a0 : Int) : Option (Bool) := (impl_within.f a0 0 12).bind fun t710 => (some t710)
set_option maxHeartbeats 8000000 in
set_option maxRecDepth 100000 in
theorem impl_isBound.calls (a0 : Int) (r : Bool) (w : World) (h : impl_isBound.f a0 = some r) :
    Calls Tryz.prog 232 #[.int .i64 a0] w fun e w' => e = .returned (.bool r) ∧ Drawn0 w w' := by
  have H : ((impl_within.f a0 0 12).bind fun t710 => (some t710)) = some r := h
  clear h
  obtain ⟨t710, A2, H⟩ := bs H; (try dsimp only at H)
  obtain rfl := Option.some.inj H
  go_enter Tryz.func232, Tryz.ntmps232
  go_wp2_with (first | (refine gA (some 4) Tryz.func159 #[.int .i64 a0, .int .i64 0, .int .i64 12] ?_; (with_reducible refine (impl_within.calls a0 0 12 t710 _ A2.out).mono ?_); rintro e w' ⟨rfl, ⟨nd, rfl⟩⟩; refine ⟨_, rfl, ?_⟩))
  go_ret
  exact ⟨by first | rfl | (simp; done) | (simp [*]; done), by repeat (first | exact Drawn0.refl _ | apply Drawn0.step)⟩
end Go.Proofs.YtkgngggppcmpfaaGreat.L
end
