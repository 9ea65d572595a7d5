/- Laws about the given program: the law FnExactGyrationLengths answers true for every input that its row lets in; no condition is added to the given statement. Contracts of the Go functions that it reaches, and the plain proof over lists. -/
import Derived.Test.YtpdgiinedbdamaaWFnExactGyrationLengths0
import Derived.Test.YtpdgiinedbdamaaKFnExactGyrationLengths0
import Derived.Test.YtpdgiinedbdamaaKFnExactGyrationLengths1
import Derived.Test.YtpdgiinedbdamaaKFnExactGyrationLengths2
import Derived.Test.YtpdgiinedbdamaaKFnExactGyrationLengths3
import Derived.Test.YtpdgiinedbdamaaKFnExactGyrationLengths4
import Derived.Test.YtpdgiinedbdamaaKFnExactGyrationLengths5
section
namespace Go.Proofs.Ytpdgiinedbdamaa.L
open Go.RowKit Go.Proofs.YtpdgiinedbdamaaW.PrintWords Go.Proofs.YtpdgiinedbdamaaW.PrintLast Go.Proofs.YtpdgiinedbdamaaW.PrintMore
attribute [local go_sem] max2_int min2_int max_two min_two max_three min_three max_four min_four
set_option linter.unusedVariables false
variable [Fn1]
set_option linter.unusedSimpArgs false
def impl_Poset_sets.l0 : Nat → List Int → Int → Int → Option (List Int)
  | 0, _, _, _ => none
  | k + 1, x5, x10, x11 => if x11 < x10 then ((impl_Poset_ideals_1.f x11).bind fun t825 => (if t825 = true then (if x5.length < 17592186044416 then (impl_Poset_sets.l0 k (x5 ++ [x11]) x10 (wrap64 (x11 + 1))) else (none)) else (impl_Poset_sets.l0 k x5 x10 (wrap64 (x11 + 1))))) else (some x5)
def impl_Poset_sets.f (k : Nat) (l0_0 : List Int) (a1 : Int) : Option (List Int) := (impl_Poset_all.f l0_0).bind fun t824 => (impl_Poset_sets.l0 k (([] : List Int)) (wrap64 (t824 + 1)) 0)
theorem impl_Poset_sets.mono_l : ∀ k, (∀ y0 y1 y2, LeO (impl_Poset_sets.l0 k y0 y1 y2) (impl_Poset_sets.l0 (k + 1) y0 y1 y2))
  | 0 => fun _ _ _ r h => by simp [impl_Poset_sets.l0] at h
  | k + 1 => by
    have ih0 := impl_Poset_sets.mono_l k
    · intro y0 y1 y2
      unfold impl_Poset_sets.l0
      repeat' first
      | (with_reducible exact ih0 _ _ _)
      | (with_reducible exact LeO.refl _)
      | (with_reducible exact LeO.none _)
      | (with_reducible refine LeO.ite ?_ ?_)
      | (with_reducible refine LeO.bind ?_ (fun _ => ?_))
      | exact ih0 _ _ _
      | exact LeO.none _
      | refine LeO.ite ?_ ?_
      | refine LeO.bind ?_ (fun _ => ?_)
theorem impl_Poset_sets.mono : ∀ a0 a1 k, LeO (impl_Poset_sets.f k a0 a1) (impl_Poset_sets.f (k + 1) a0 a1) := by
  intro a0 a1 k
  have ih0 := impl_Poset_sets.mono_l k
  unfold impl_Poset_sets.f
  repeat' first
      | (with_reducible exact ih0 _ _ _)
      | (with_reducible exact LeO.refl _)
      | (with_reducible exact LeO.none _)
      | (with_reducible refine LeO.ite ?_ ?_)
      | (with_reducible refine LeO.bind ?_ (fun _ => ?_))
      | exact ih0 _ _ _
      | exact LeO.none _
      | refine LeO.ite ?_ ?_
      | refine LeO.bind ?_ (fun _ => ?_)
set_option maxHeartbeats 8000000 in
set_option maxRecDepth 100000 in
open Go.Proofs.Ytpdgiinedbdamaa.X in
theorem impl_Poset_sets.calls (gF : Nat) (lbF : Array Value) (eg : ∀ args w, (callFunc gF args).run Try.prog w = .ok (.enter gF args) w) (k : Nat) (A0_0 : Option Addr) (c0_0 : Nat) (l0_0 : List Int) (a1 : Int) (r : List Int) (w : World) (hr0_0 : Kd.C (Kd.int .i64) w A0_0 l0_0.length l0_0) (hc0_0 : l0_0.length ≤ c0_0) (hpF : ∀ x0_ b, impl_Poset_ideals_1.f x0_ = some b → Fv Try.prog gF lbF #[.int .i64 x0_] (.bool b) w) (h : impl_Poset_sets.f k l0_0 a1 = some r) :
    Calls Try.prog 123 #[.agg #[.slice A0_0 l0_0.length c0_0], .func (.func gF) #[] lbF] w fun e w' => ∃ v0_ : Value, e = .returned (v0_) ∧ Kd.R (Kd.int .i64) 3 w' w.heap.size (fun _ => True) v0_ r ∧ Below w.heap.size w w' := by
  have HP := Aside0.mk hpF
  clear hpF
  have hu28 := Try.underlying28
  have HR0_0 := Aside0.mk hr0_0
  have HC0_0 := Aside0.mk hc0_0
  clear hr0_0 hc0_0
  have HB := Aside0.mk (Below.refl w.heap.size w)
  have H : ((impl_Poset_all.f l0_0).bind fun t824 => (impl_Poset_sets.l0 k (([] : List Int)) (wrap64 (t824 + 1)) 0)) = some r := h
  clear h
  obtain ⟨y821, hy821⟩ : ∃ y_ : List Int, y_ = (([] : List Int)) := ⟨_, rfl⟩
  replace H : ((impl_Poset_all.f l0_0).bind fun t824 => (impl_Poset_sets.l0 k y821 (wrap64 (t824 + 1)) 0)) = some r := by first | (rw [hy821]; with_reducible exact H) | (have H2_ := (Option.bind_some _ _).symm.trans H; rw [hy821]; with_reducible exact H2_) | (have H2_ := (Option.bind_some _ _).symm.trans H; with_reducible exact H2_) | with_reducible exact H | (rw [hy821]; exact H) | exact H
  have Ny821 := Aside0.mk hy821
  clear hy821
  replace H := Option.bind_eq_some_iff.mp H
  obtain ⟨t824, A30, H⟩ := H
  replace H : (impl_Poset_sets.l0 k y821 (wrap64 (t824 + 1)) 0) = some r := H
  have A3 := Aside0.mk A30
  clear A30
  have H' := Aside0.mk H
  clear H
  go_enter Try.func123, Try.ntmps123
  go_wp2_with (first | ((with_reducible refine gate_dst (N := 2) rfl ?_); refine box_event ?hg (N := 2) ?hd (cs := #[.slice A0_0 l0_0.length c0_0]) (t := 28) ?hr ?_; (case hd => rfl); (case hg => rfl); (case hr => first | (go_simp; done) | (go_simp; rfl)); intro gb820 hg w4 hbox hb; have n0_ := Aside0.mk (below_step (by repeat (first | (with_reducible first | exact HB.out | apply below_alloc | apply pw_below_drewN | apply below_drew1) | exact HB.out)) hb); have n1_ := Aside0.mk (hbox); have n2_ := Aside0.mk ((by rw [hg]; exact (below_size (by repeat (first | (with_reducible first | exact HB.out | apply below_alloc | apply pw_below_drewN | apply below_drew1) | exact HB.out))) : w.heap.size ≤ gb820)); have n3_ := Aside0.mk ((by rw [hg]; exact (below_size (by repeat (first | (with_reducible first | exact HB.out | apply below_alloc | apply pw_below_drewN | apply below_drew1) | exact HB.out))) : w.heap.size ≤ gb820)); clear HB; have HB := n0_; have BK820 := n1_; have GW820 := n2_; have GE820 := n3_; clear n0_ n1_ n2_ n3_; clear hb hbox hg) | ((with_reducible refine gate_dst (N := 7) rfl ?_); refine Kd.R_lit (Kd.int .i64) _ 3 ?hg (N := 7) ?hd (xs := ([] : List Int)) (inner := []) (ok := fun _ => True) (okp := fun _ => True) ?hr ?hp (fun _ hk => hk) trivial (Below.refl _ _) (Nat.le_refl _) (by simp) ?_; (case hd => rfl); (case hg => rfl); (case hr => first | (go_simp; done) | (go_simp; rfl)); (case hp => exact (Reps.none _ _)); intro v822 w5 ho6 hb hg_ hnew_; clear hg_ hnew_; (first | rw [← Ny821.out] at ho6 | (simp only [Int.reduceToNat] at ho6; rw [← Ny821.out] at ho6)); have n0_ := Aside0.mk (Kd.R_lower ho6 (below_size (by repeat (first | (with_reducible first | exact HB.out | apply below_alloc | apply pw_below_drewN | apply below_drew1 | refine below_set ?_ GE820.out) | exact HB.out)))); have n1_ := Aside0.mk (blk_below (g := gb820) (o := .cells #[.slice A0_0 l0_0.length c0_0] 28 (0, 0)) (by (with_reducible repeat (first | refine blk_drewN ?_ _ | refine blk_drew ?_ | refine blk_alloc ?_ _)); exact BK820.out) hb); have n2_ := Aside0.mk (below_step (by repeat (first | (with_reducible first | exact HB.out | apply below_alloc | apply pw_below_drewN | apply below_drew1 | refine below_set ?_ GE820.out) | exact HB.out)) hb); clear BK820; clear HB; have HO823 := n0_; have BK820 := n1_; have HB := n2_; clear n0_ n1_ n2_; clear hb ho6; have hcz7_0 : w5.cell? ⟨gb820, 0, none⟩ = some (.slice A0_0 l0_0.length c0_0) := (blk_cell BK820.out 0).trans rfl; have hfz7_0 := blk_frozen BK820.out 0) | ((with_reducible refine gate_callee (f := 156) rfl ?_); refine goesL_ (some 9) rfl rfl Try.func156 (by kernel_rfl) rfl #[.agg #[.slice A0_0 l0_0.length c0_0]] rfl (by (try simp only [List.map_toArray, List.map_cons, List.map_nil]); first | done | rfl | (simp only [List.length_drop, List.length_take]; rfl)) ?_; (with_reducible refine (impl_Poset_all.calls _ _ l0_0 t824 _ ?side1 ?side2 A3.out).mono ?_); (case side1 => repeat (first | exact (Kd.C_below HR0_0.out HB.out) | (with_reducible refine Kd.C_alloc ?_ _) | (with_reducible refine Kd.C_drewN ?_ _) | (with_reducible refine Kd.C_drew ?_))); (case side2 => exact HC0_0.out); rintro e w8 ⟨rfl, hb⟩; refine ⟨_, rfl, ?_⟩; have n0_ := Aside0.mk (Kd.R_below (by (with_reducible repeat (first | apply Kd.R_alloc | apply Kd.R_drewN | apply Kd.R_drew)); exact HO823.out) hb); have n1_ := Aside0.mk (blk_below (g := gb820) (o := .cells #[.slice A0_0 l0_0.length c0_0] 28 (0, 0)) (by (with_reducible repeat (first | refine blk_drewN ?_ _ | refine blk_drew ?_ | refine blk_alloc ?_ _)); exact BK820.out) hb); have n2_ := Aside0.mk (below_step (by repeat (first | (with_reducible first | exact HB.out | apply below_alloc | apply pw_below_drewN | apply below_drew1 | refine below_set ?_ GE820.out) | exact HB.out)) hb); clear HO823; clear BK820; clear HB; have HO823 := n0_; have BK820 := n1_; have HB := n2_; clear n0_ n1_ n2_; (try clear hb); (try clear hb2); (try clear hk); (try clear hi)))
  go_loopg [5, 11] k (fun kq v5 v11 w' => ∃ (x5_1 : List Int) (x11_1 : Int), v11 = .int .i64 x11_1 ∧ Aside0 (impl_Poset_sets.l0 kq x5_1 (wrap64 (t824 + 1)) x11_1 = some r) ∧ Aside0 (kq ≤ k) ∧ Aside0 (Kd.R (Kd.int .i64) 3 w' w.heap.size (fun _ => True) v5 x5_1) ∧ Aside0 (w'.heap[gb820]? = some (.cells #[(.slice A0_0 l0_0.length c0_0)] 28 (0, 0))) ∧ Aside0 (Below w.heap.size w w'))
  case atStart => exact ⟨(y821), (0), (by first | rfl | (simp; done) | (simp [*]; done)), H', ⟨Nat.le_refl _⟩, ⟨by (with_reducible repeat (first | apply Kd.R_alloc | apply Kd.R_drewN | apply Kd.R_drew)); exact HO823.out⟩, ⟨by (with_reducible repeat (first | refine blk_drewN ?_ _ | refine blk_drew ?_ | refine blk_alloc ?_ _)); exact BK820.out⟩, ⟨by repeat (first | (with_reducible first | exact HB.out | apply below_alloc | apply pw_below_drewN | apply below_drew1 | refine below_set ?_ GE820.out) | exact HB.out)⟩⟩
  case round =>
    clear H'
    try clear c1
    try clear p2
    try clear p6
    try clear hcz7_0
    try clear hfz7_0
    obtain ⟨x5_1, x11_1, rfl, HA, HK1, HO_5, BK820, HB⟩ := hrel
    cases gk with
    | zero => exact absurd HA.out (by simp [impl_Poset_sets.l0])
    | succ k1 =>
      have H := HA.out
      clear HA
      simp only [impl_Poset_sets.l0] at H
      by_cases c9 : x11_1 < (wrap64 (t824 + 1))
      · rw [if_pos c9] at H
        have c9b0 : decide (x11_1 < (wrap64 (t824 + 1))) = true := decide_eq_true c9
        clear c9
        replace H := Option.bind_eq_some_iff.mp H
        obtain ⟨t825, A100, H⟩ := H
        replace H : (if t825 = true then (if x5_1.length < 17592186044416 then (impl_Poset_sets.l0 k1 (x5_1 ++ [x11_1]) (wrap64 (t824 + 1)) (wrap64 (x11_1 + 1))) else (none)) else (impl_Poset_sets.l0 k1 x5_1 (wrap64 (t824 + 1)) (wrap64 (x11_1 + 1)))) = some r := H
        have A10 := Aside0.mk A100
        clear A100
        by_cases c11 : t825 = true
        · subst c11
          have H1 : (if x5_1.length < 17592186044416 then (impl_Poset_sets.l0 k1 (x5_1 ++ [x11_1]) (wrap64 (t824 + 1)) (wrap64 (x11_1 + 1))) else (none)) = some r := by rw [if_pos rfl] at H; exact H
          clear H
          have H := H1
          clear H1
          by_cases c12 : x5_1.length < 17592186044416
          · rw [if_pos c12] at H
            have LMc12 := Aside0.mk c12
            clear c12
            obtain ⟨y826, hy826⟩ : ∃ y_ : List Int, y_ = (x5_1 ++ [x11_1]) := ⟨_, rfl⟩
            replace H : (impl_Poset_sets.l0 k1 y826 (wrap64 (t824 + 1)) (wrap64 (x11_1 + 1))) = some r := by first | (rw [hy826]; with_reducible exact H) | (have H2_ := (Option.bind_some _ _).symm.trans H; rw [hy826]; with_reducible exact H2_) | (have H2_ := (Option.bind_some _ _).symm.trans H; with_reducible exact H2_) | with_reducible exact H | (rw [hy826]; exact H) | exact H
            have Ny826 := Aside0.mk hy826
            clear hy826
            have H' := Aside0.mk H
            clear H
            go_wp2_with (first | (go_at_fn gF; (with_reducible refine (Fv.calls (HP.out _ _ A10.out) (by repeat (first | (with_reducible first | exact HB.out | apply below_alloc | apply pw_below_drewN | apply below_drew1 | refine below_set ?_ GE820.out) | exact HB.out))).mono ?_); rintro e w13 ⟨rfl, hb⟩; have n0_ := Aside0.mk (Kd.R_below (by (with_reducible repeat (first | apply Kd.R_alloc | apply Kd.R_drewN | apply Kd.R_drew)); exact HO_5.out) hb); have n1_ := Aside0.mk (blk_below (g := gb820) (o := .cells #[.slice A0_0 l0_0.length c0_0] 28 (0, 0)) (by (with_reducible repeat (first | refine blk_drewN ?_ _ | refine blk_drew ?_ | refine blk_alloc ?_ _)); exact BK820.out) hb); have n2_ := Aside0.mk (below_step (by repeat (first | (with_reducible first | exact HB.out | apply below_alloc | apply pw_below_drewN | apply below_drew1 | refine below_set ?_ GE820.out) | exact HB.out)) hb); clear HO_5; clear BK820; clear HB; have HO_5 := n0_; have BK820 := n1_; have HB := n2_; clear n0_ n1_ n2_; (try clear hb); (try clear hb2); (try clear hk); (try clear hi)) | ((with_reducible refine gate_builtin (b := .append) (xs := #[.tmp 17, .tmp 19]) rfl ?_); at_builtin; refine Kd.R_append (Kd.int .i64) (w0 := w) w.heap.size rfl (.tmp 17) (.tmp 19) 22 3 (.int .i64 0) 8 rfl Try.underlying22 info3 rfl (by decide) (by omega) u5 x5_1 x11_1 [.int .i64 x11_1] (fun _ => True) (fun _ => False) rfl rfl ?aP (fun _ hk => hk.elim) ?aF ?aO ?aB ?aS ?aL ?_; (case aP => exact rfl); (case aB => exact (by repeat (first | (with_reducible first | exact HB.out | apply below_alloc | apply pw_below_drewN | apply below_drew1 | refine below_set ?_ GE820.out) | exact HB.out))); (case aF => exact (fun _ _ => trivial)); (case aO => exact (by (with_reducible repeat (first | apply Kd.R_alloc | apply Kd.R_drewN | apply Kd.R_drew)); exact HO_5.out)); (case aS => exact (below_size (by repeat (first | (with_reducible first | exact HB.out | apply below_alloc | apply pw_below_drewN | apply below_drew1 | refine below_set ?_ GE820.out) | exact HB.out)))); (case aL => have := LMc12.out; omega); intro v827 w14 ho hb hg hat; rw [← Ny826.out] at ho; have n0_ := Aside0.mk (blk_grown (g := gb820) (o := .cells #[.slice A0_0 l0_0.length c0_0] 28 (0, 0)) (by (with_reducible repeat (first | refine blk_drewN ?_ _ | refine blk_drew ?_ | refine blk_alloc ?_ _)); exact BK820.out) hg (Kd.R_ne HO_5.out BK820.out (by decide))); have n1_ := Aside0.mk (hb); have n2_ := Aside0.mk (ho); clear BK820; clear HB; clear HO_5; have BK820 := n0_; have HB := n1_; have HO828 := n2_; clear n0_ n1_ n2_; clear ho hb hg hat))
            go_roundg k1
            case measure => have := HK1.out; omega
            case rel => exact ⟨(y826), (wrap64 (x11_1 + 1)), (by first | rfl | (simp; done) | (simp [*]; done)), H', ⟨by have := HK1.out; omega⟩, ⟨by (with_reducible repeat (first | apply Kd.R_alloc | apply Kd.R_drewN | apply Kd.R_drew)); exact HO828.out⟩, ⟨by (with_reducible repeat (first | refine blk_drewN ?_ _ | refine blk_drew ?_ | refine blk_alloc ?_ _)); exact BK820.out⟩, ⟨by repeat (first | (with_reducible first | exact HB.out | apply below_alloc | apply pw_below_drewN | apply below_drew1 | refine below_set ?_ GE820.out) | exact HB.out)⟩⟩
          · rw [if_neg c12] at H
            exact absurd H (by simp)
        · replace c11 := Bool.eq_false_iff.mpr c11
          subst c11
          have H1 : (impl_Poset_sets.l0 k1 x5_1 (wrap64 (t824 + 1)) (wrap64 (x11_1 + 1))) = some r := by rw [if_neg (show ¬ (false = true) by decide)] at H; exact H
          clear H
          have H := H1
          clear H1
          have H' := Aside0.mk H
          clear H
          go_wp2_with (first | (go_at_fn gF; (with_reducible refine (Fv.calls (HP.out _ _ A10.out) (by repeat (first | (with_reducible first | exact HB.out | apply below_alloc | apply pw_below_drewN | apply below_drew1 | refine below_set ?_ GE820.out) | exact HB.out))).mono ?_); rintro e w15 ⟨rfl, hb⟩; have n0_ := Aside0.mk (Kd.R_below (by (with_reducible repeat (first | apply Kd.R_alloc | apply Kd.R_drewN | apply Kd.R_drew)); exact HO_5.out) hb); have n1_ := Aside0.mk (blk_below (g := gb820) (o := .cells #[.slice A0_0 l0_0.length c0_0] 28 (0, 0)) (by (with_reducible repeat (first | refine blk_drewN ?_ _ | refine blk_drew ?_ | refine blk_alloc ?_ _)); exact BK820.out) hb); have n2_ := Aside0.mk (below_step (by repeat (first | (with_reducible first | exact HB.out | apply below_alloc | apply pw_below_drewN | apply below_drew1 | refine below_set ?_ GE820.out) | exact HB.out)) hb); clear HO_5; clear BK820; clear HB; have HO_5 := n0_; have BK820 := n1_; have HB := n2_; clear n0_ n1_ n2_; (try clear hb); (try clear hb2); (try clear hk); (try clear hi)))
          go_roundg k1
          case measure => have := HK1.out; omega
          case rel => exact ⟨(x5_1), (wrap64 (x11_1 + 1)), (by first | rfl | (simp; done) | (simp [*]; done)), H', ⟨by have := HK1.out; omega⟩, ⟨by (with_reducible repeat (first | apply Kd.R_alloc | apply Kd.R_drewN | apply Kd.R_drew)); exact HO_5.out⟩, ⟨by (with_reducible repeat (first | refine blk_drewN ?_ _ | refine blk_drew ?_ | refine blk_alloc ?_ _)); exact BK820.out⟩, ⟨by repeat (first | (with_reducible first | exact HB.out | apply below_alloc | apply pw_below_drewN | apply below_drew1 | refine below_set ?_ GE820.out) | exact HB.out)⟩⟩
      · rw [if_neg c9] at H
        have c9b0 : decide (x11_1 < (wrap64 (t824 + 1))) = false := decide_eq_false c9
        clear c9
        obtain rfl := Option.some.inj H
        go_wp2
        go_ret
        exact ⟨_, by first | rfl | (simp [errW_none, errW_some] <;> rfl) | (simp [*, errW_none, errW_some] <;> rfl), by (with_reducible repeat (first | apply Kd.R_alloc | apply Kd.R_drewN | apply Kd.R_drew)); exact HO_5.out, by repeat (first | (with_reducible first | exact HB.out | apply below_alloc | apply pw_below_drewN | apply below_drew1 | refine below_set ?_ GE820.out) | exact HB.out)⟩
end Go.Proofs.Ytpdgiinedbdamaa.L
end
section
namespace Go.Proofs.Ytpdgiinedbdamaa.L
open Go.RowKit Go.Proofs.YtpdgiinedbdamaaW.PrintWords Go.Proofs.YtpdgiinedbdamaaW.PrintLast Go.Proofs.YtpdgiinedbdamaaW.PrintMore
attribute [local go_sem] max2_int min2_int max_two min_two max_three min_three max_four min_four
set_option linter.unusedVariables false
set_option linter.unusedSimpArgs false
@[reducible] def impl_Poset_ideals.inst (k : Nat) (l0 : List Int) : Fn1 := ⟨fun s => (impl_Poset_close.f k l0 s).map (· == s)⟩
def impl_Poset_ideals.f (k : Nat) (l0_0 : List Int) : Option (List Int) := @impl_Poset_sets.f (impl_Poset_ideals.inst k l0_0) k l0_0 0
theorem impl_Poset_ideals.mono_i (i i' : Fn1) (hi : ∀ s, LeO (i.p s) (i'.p s)) : ∀ k y0 y1 y2, LeO (@impl_Poset_sets.l0 i k y0 y1 y2) (@impl_Poset_sets.l0 i' k y0 y1 y2)
  | 0, _, _, _ => fun r h => by cases h
  | k + 1, y0, y1, y2 => by
    rw [@impl_Poset_sets.l0.eq_2 i, @impl_Poset_sets.l0.eq_2 i']
    exact LeO.ite (LeO.bind (hi _) (fun t => LeO.ite (LeO.ite (impl_Poset_ideals.mono_i i i' hi k _ _ _) (LeO.refl _)) (impl_Poset_ideals.mono_i i i' hi k _ _ _))) (LeO.refl _)
theorem impl_Poset_ideals.mono : ∀ a0 k, LeO (impl_Poset_ideals.f k a0) (impl_Poset_ideals.f (k + 1) a0) := by
  intro l0 k
  refine LeO.trans (@impl_Poset_sets.mono (impl_Poset_ideals.inst k l0) _ _ k) ?_
  unfold impl_Poset_sets.f
  refine LeO.bind (LeO.refl _) (fun t => impl_Poset_ideals.mono_i _ _ (fun s r h => ?_) _ _ _ _)
  obtain ⟨v, hv, e⟩ := Option.map_eq_some_iff.mp h
  exact Option.map_eq_some_iff.mpr ⟨v, impl_Poset_close.mono _ _ _ _ hv, e⟩
open Go.Proofs.Ytpdgiinedbdamaa.X in
set_option maxHeartbeats 800000 in
set_option maxRecDepth 100000 in
theorem impl_Poset_ideals.lit (k : Nat) (A0 : Option Addr) (c0 : Nat) (l0 : List Int) (s : Int) (t : Bool) (B : Nat) (w : World) (hr0 : Kd.C (Kd.int .i64) w A0 l0.length l0) (hc0 : l0.length ≤ c0) (hB : B < w.heap.size) (hc : w.cell? ⟨B, 0, none⟩ = some (.slice A0 l0.length c0)) (h : (impl_Poset_ideals.inst k l0).p s = some t) :
    Fv Try.prog 124 #[.pointer (some ⟨B, 0, none⟩)] #[.int .i64 s] (.bool t) w := by
  intro W hb
  have hc' : W.cell? ⟨B, 0, none⟩ = some (.slice A0 l0.length c0) := (hb.cell (p := ⟨B, 0, none⟩) hB).trans hc
  obtain ⟨v, hv, rfl⟩ := Option.map_eq_some_iff.mp h
  have HV := Aside0.mk hv
  have HR := Aside0.mk (Kd.C_below hr0 hb)
  have HC := Aside0.mk hc0
  clear h hv hr0 hb hc hc0
  have hu := Try.underlying28
  go_enter Try.func124, Try.ntmps124
  go_wp2_with (go_at_call 125; (with_reducible refine (impl_Poset_close.calls k _ _ l0 s v _ HR.out HC.out HV.out).mono ?_); rintro e w1 ⟨rfl, hb⟩)
  go_ret
  exact ⟨rfl, hb⟩
open Go.Proofs.Ytpdgiinedbdamaa.X in
set_option maxHeartbeats 800000 in
set_option maxRecDepth 100000 in
theorem impl_Poset_ideals.calls (k : Nat) (A0_0 : Option Addr) (c0_0 : Nat) (l0_0 : List Int) (r : List Int) (w : World) (hr0_0 : Kd.C (Kd.int .i64) w A0_0 l0_0.length l0_0) (hc0_0 : l0_0.length ≤ c0_0) (h : impl_Poset_ideals.f k l0_0 = some r) :
    Calls Try.prog 81 #[.agg #[.slice A0_0 l0_0.length c0_0]] w fun e w' => ∃ v0_ : Value, e = .returned (v0_) ∧ Kd.R (Kd.int .i64) 3 w' w.heap.size (fun _ => True) v0_ r ∧ Below w.heap.size w w' := by
  unfold impl_Poset_ideals.f at h
  have HF := Aside0.mk h
  have HR := Aside0.mk hr0_0
  have HC := Aside0.mk hc0_0
  clear h hr0_0 hc0_0
  have hu := Try.underlying28
  go_enter Try.func81, Try.ntmps81
  go_wp2_with fail
  have B0 := Aside0.mk (below_alloc (Below.refl w.heap.size w) (.cells #[.slice A0_0 l0_0.length c0_0] 28))
  refine (@impl_Poset_sets.calls (impl_Poset_ideals.inst k l0_0) 124 #[.pointer (some ⟨w.heap.size, 0, none⟩)] (enters_ Try.func124 (by kernel_rfl) rfl) k _ _ l0_0 0 r _ (Kd.C_below HR.out B0.out) HC.out (fun s b hb => impl_Poset_ideals.lit k A0_0 c0_0 l0_0 s b w.heap.size _ (Kd.C_below HR.out B0.out) HC.out (by simp) (by simp) hb) HF.out).mono ?_
  rintro e w2 ⟨v0, rfl, hR, hb⟩
  have hR2 := Kd.R_lower hR (show w.heap.size ≤ _ by simp)
  have B2 := Aside0.mk (below_to B0.out hb)
  have HO := Aside0.mk hR2
  clear hR hR2 hb
  go_wp2
  go_ret
  exact ⟨_, rfl, HO.out, B2.out⟩
end Go.Proofs.Ytpdgiinedbdamaa.L
end
section
namespace Go.Proofs.Ytpdgiinedbdamaa.L
open Go.RowKit Go.Proofs.YtpdgiinedbdamaaW.PrintWords Go.Proofs.YtpdgiinedbdamaaW.PrintLast Go.Proofs.YtpdgiinedbdamaaW.PrintMore
attribute [local go_sem] max2_int min2_int max_two min_two max_three min_three max_four min_four
set_option linter.unusedVariables false
set_option linter.unusedSimpArgs false
def slices_Clone_int_int.f (l0 : List Int) : Option (List Int) := if l0.length < 17592186044416 then some l0 else none
set_option maxHeartbeats 800000 in
set_option maxRecDepth 100000 in
theorem slices_Clone_int_int.calls (A0 : Option Addr) (c0 : Nat) (l0 : List Int) (r : List Int) (w : World) (hr0 : Kd.C (Kd.int .i64) w A0 l0.length l0) (hc0 : l0.length ≤ c0) (h : slices_Clone_int_int.f l0 = some r) :
    Calls Try.prog 61 #[.slice A0 l0.length c0] w fun e w' => ∃ v0_ : Value, e = .returned (v0_) ∧ Kd.R (Kd.int .i64) 3 w' w.heap.size (fun _ => True) v0_ r ∧ Below w.heap.size w w' := by
  unfold slices_Clone_int_int.f at h
  split at h
  · rename_i hl
    obtain rfl := Option.some.inj h
    clear h
    have HL := Aside0.mk hl
    have HR0 := Aside0.mk hr0
    clear hl hr0 hc0
    cases A0 with
    | none =>
      have hn : l0 = [] := by
        apply Classical.byContradiction; intro hne
        obtain ⟨_, e, _⟩ := HR0.out.2.2 (List.length_pos_iff.mpr hne)
        cases e
      subst hn
      have hs := Lib.run_eql_slice_nil (P := Try.prog) w 22 3 none 0 c0 0 0 Try.underlying22
      go_enter Try.func61, Try.ntmps61
      go_wp2
      go_ret
      exact ⟨_, rfl, Kd.R_nil _ _ _ _ _, Below.refl _ _⟩
    | some a =>
      have hs := Lib.run_eql_slice_nil (P := Try.prog) w 22 3 (some a) l0.length c0 0 0 Try.underlying22
      go_enter Try.func61, Try.ntmps61
      go_wp2_with (first | ((with_reducible refine gate_dst (N := 5) rfl ?_); refine Kd.R_lit (Kd.int .i64) _ 3 ?hg (N := 5) ?hd (xs := ([] : List Int)) (inner := []) (ok := fun _ => True) (okp := fun _ => True) ?hr ?hp (fun _ hk => hk) trivial (Below.refl _ _) (Nat.le_refl _) (by simp) ?_; (case hd => rfl); (case hg => rfl); (case hr => first | (go_simp; done) | (go_simp; rfl)); (case hp => exact (Reps.none _ _)); intro v109 w3 ho4 hb hg_ hnew_; clear hg_ hnew_; have HB := Aside0.mk hb; have HO := Aside0.mk ho4; clear hb ho4) | ((with_reducible refine gate_builtin (b := .append) (xs := #[.tmp 5, .tmp 6]) rfl ?_); at_builtin; refine Kd.R_append_rows (Kd.int .i64) (w0 := w) w.heap.size rfl (.tmp 5) (.tmp 6) 22 3 (.int .i64 0) 8 rfl Try.underlying22 info3 rfl (by decide) (by omega) v109 [] l0 _ _ _ (fun _ => True) (fun _ => False) rfl rfl ?aO ?aR (fun _ _ h => h) (fun _ h => h.elim) ?aF ?aB ?aS ?aL ?_; (case aR => exact (Kd.C_below HR0.out HB.out)); (case aB => exact HB.out); (case aF => exact (fun _ _ => trivial)); (case aO => exact HO.out); (case aS => exact HB.out.size); (case aL => have := HL.out; simp; omega); intro v112 w5 ho hb hg hat; have HB2 := Aside0.mk hb; have HO2 := Aside0.mk ho; clear ho hb hg hat))
      go_ret
      exact ⟨_, rfl, by simpa using HO2.out, HB2.out⟩
  · exact absurd h (by simp)
end Go.Proofs.Ytpdgiinedbdamaa.L
end
section
namespace Go.Proofs.Ytpdgiinedbdamaa.L
open Go.RowKit Go.Proofs.YtpdgiinedbdamaaW.PrintWords Go.Proofs.YtpdgiinedbdamaaW.PrintLast Go.Proofs.YtpdgiinedbdamaaW.PrintMore
attribute [local go_sem] max2_int min2_int max_two min_two max_three min_three max_four min_four
set_option linter.unusedVariables false
set_option linter.unusedSimpArgs false
def slices_Sort.ren : Go.Shelf.Ren := ⟨fun | 5 => 129 | 8 => 159 | 7 => 158 | 19 => 180 | 20 => 181 | 10 => 171 | 11 => 172 | 12 => 173 | 13 => 174 | 14 => 175 | 15 => 176 | 16 => 177 | 17 => 178 | 18 => 179 | 30 => 183 | 31 => 184 | 32 => 185 | 33 => 186 | 34 => 187 | 35 => 188 | 40 => 189 | n => n, fun | 23 => 22 | 25 => 3 | 3 => 3 | 32 => 107 | 22 => 22 | 0 => 0 | 44 => 120 | 46 => 122 | 4 => 4 | 36 => 115 | 35 => 114 | 41 => 26 | 5 => 5 | 9 => 9 | 53 => 123 | 57 => 127 | 63 => 129 | 64 => 78 | n => n, fun | n => n⟩
theorem slices_Sort.lays : Go.Proofs.SlLaysM.n5 Try.prog slices_Sort.ren where
  mixed := by kernel_rfl
  f5 := ⟨ "slices.Sort[[]int,int]", by decide, Try.func129.trans (congrArg some (by kernel_rfl))⟩
  f7 := ⟨ "slices.pdqsortOrdered[int]", by decide, Try.func158.trans (congrArg some (by kernel_rfl))⟩
  f8 := Try.func159.trans (congrArg some (by kernel_rfl))
  f10 := ⟨ "slices.insertionSortOrdered[int]", by decide, Try.func171.trans (congrArg some (by kernel_rfl))⟩
  f11 := ⟨ "slices.heapSortOrdered[int]", by decide, Try.func172.trans (congrArg some (by kernel_rfl))⟩
  f12 := ⟨ "slices.breakPatternsOrdered[int]", by decide, Try.func173.trans (congrArg some (by kernel_rfl))⟩
  f13 := ⟨ "slices.choosePivotOrdered[int]", by decide, Try.func174.trans (congrArg some (by kernel_rfl))⟩
  f14 := ⟨ "slices.reverseRangeOrdered[int]", by decide, Try.func175.trans (congrArg some (by kernel_rfl))⟩
  f15 := ⟨ "slices.partialInsertionSortOrdered[int]", by decide, Try.func176.trans (congrArg some (by kernel_rfl))⟩
  f16 := ⟨ "cmp.Less[int]", by decide, Try.func177.trans (congrArg some (by kernel_rfl))⟩
  f17 := ⟨ "slices.partitionEqualOrdered[int]", by decide, Try.func178.trans (congrArg some (by kernel_rfl))⟩
  f18 := ⟨ "slices.partitionOrdered[int]", by decide, Try.func179.trans (congrArg some (by kernel_rfl))⟩
  f19 := Try.func180.trans (congrArg some (by kernel_rfl))
  f20 := Try.func181.trans (congrArg some (by kernel_rfl))
  f30 := ⟨ "slices.siftDownOrdered[int]", by decide, Try.func183.trans (congrArg some (by kernel_rfl))⟩
  f31 := Try.func184.trans (congrArg some (by kernel_rfl))
  f32 := Try.func185.trans (congrArg some (by kernel_rfl))
  f33 := ⟨ "slices.medianAdjacentOrdered[int]", by decide, Try.func186.trans (congrArg some (by kernel_rfl))⟩
  f34 := ⟨ "slices.medianOrdered[int]", by decide, Try.func187.trans (congrArg some (by kernel_rfl))⟩
  f35 := ⟨ "cmp.isNaN[int]", by decide, Try.func188.trans (congrArg some (by kernel_rfl))⟩
  f40 := ⟨ "slices.order2Ordered[int]", by decide, Try.func189.trans (congrArg some (by kernel_rfl))⟩
  t0 := Try.underlying0
  a0 := Try.isAgg0
  z0 := Try.sizeOf0
  v0 := Try.zeroValue0
  t3 := Try.underlying3
  a3 := Try.isAgg3
  z3 := Try.sizeOf3
  v3 := Try.zeroValue3
  t4 := Try.underlying4
  a4 := Try.isAgg4
  z4 := Try.sizeOf4
  v4 := Try.zeroValue4
  t5 := Try.underlying5
  a5 := Try.isAgg5
  z5 := Try.sizeOf5
  v5 := Try.zeroValue5
  t9 := Try.underlying9
  a9 := Try.isAgg9
  z9 := Try.sizeOf9
  v9 := Try.zeroValue9
  t22 := Try.underlying22
  a22 := Try.isAgg22
  z22 := Try.sizeOf22
  v22 := Try.zeroValue22
  t23 := Try.underlying22
  a23 := Try.isAgg22
  z23 := Try.sizeOf22
  v23 := Try.zeroValue22
  t25 := Try.underlying3
  a25 := Try.isAgg3
  z25 := Try.sizeOf3
  v25 := Try.zeroValue3
  t32 := Try.underlying107
  a32 := Try.isAgg107
  z32 := Try.sizeOf107
  v32 := Try.zeroValue107
  t35 := Try.underlying114
  a35 := Try.isAgg114
  z35 := Try.sizeOf114
  v35 := Try.zeroValue114
  t36 := Try.underlying115
  a36 := Try.isAgg115
  z36 := Try.sizeOf115
  v36 := Try.zeroValue115
  t41 := Try.underlying26
  a41 := Try.isAgg26
  z41 := Try.sizeOf26
  v41 := Try.zeroValue26
  t44 := Try.underlying120
  a44 := Try.isAgg120
  z44 := Try.sizeOf120
  v44 := Try.zeroValue120
  t46 := Try.underlying122
  a46 := Try.isAgg122
  z46 := Try.sizeOf122
  v46 := Try.zeroValue122
  t53 := Try.underlying123
  a53 := Try.isAgg123
  z53 := Try.sizeOf123
  v53 := Try.zeroValue123
  t57 := Try.underlying127
  a57 := Try.isAgg127
  z57 := Try.sizeOf127
  v57 := Try.zeroValue127
  t63 := Try.underlying129
  a63 := Try.isAgg129
  z63 := Try.sizeOf129
  v63 := Try.zeroValue129
  t64 := Try.underlying78
  a64 := Try.isAgg78
  z64 := Try.sizeOf78
  v64 := Try.zeroValue78
theorem slices_Sort.heap {w : World} {g e : Nat} {cur : Array Value} (h : w.heap[g]? = some (.cells cur e (0, 0))) (f : Array Value → Array Value) : (Go.Sort.mapBlock w g f).heap[g]? = some (.cells (f cur) e (0, 0)) := by
  unfold Go.Sort.mapBlock
  show (w.heap.modify g (Go.Sort.onCells f))[g]? = _
  rw [Array.getElem?_modify, if_pos rfl, h]
  rfl
theorem slices_Sort.far {w : World} {g k : Nat} (hk : k ≠ g) (f : Array Value → Array Value) : (Go.Sort.mapBlock w g f).heap[k]? = w.heap[k]? := by
  unfold Go.Sort.mapBlock
  show (w.heap.modify g (Go.Sort.onCells f))[k]? = _
  rw [Array.getElem?_modify, if_neg (fun e => hk e.symm)]
theorem slices_Sort.hold {g n c base e : Nat} {ok : Nat → Prop} {w : World} {xs : List Int} (h : (Kd.int .i64).R e w base ok (.slice (some ⟨g, 0, none⟩) n c) xs) : Go.Sort.Holds (Value.int .i64) w g 0 xs.toArray := by
  obtain ⟨hn, _, _⟩ := Kd.R_reads' h
  subst hn
  intro j hj
  have hj' : j < xs.length := by simpa using hj
  obtain ⟨h1, h2⟩ := Kd.R_celln (0 : Int) h (j : Int) (by omega) (by omega)
  rw [Int.toNat_natCast] at h1 h2
  rw [Nat.zero_add]
  refine ⟨?_, h2⟩
  rw [h1]
  simp [rdOf, List.getD_eq_getElem?_getD, hj']
theorem slices_Sort.put {g n c base e : Nat} {ok : Nat → Prop} {w : World} {xs zs : List Int} (h : (Kd.int .i64).R e w base ok (.slice (some ⟨g, 0, none⟩) n c) xs) (hz : zs.length = xs.length) :
    (Kd.int .i64).R e (Go.Sort.putRow (Value.int .i64) w g 0 zs.toArray) base ok (.slice (some ⟨g, 0, none⟩) n c) zs := by
  obtain ⟨hn, _, _⟩ := Kd.R_reads' h
  subst hn
  have ho := Kd.own_of_R h
  obtain ⟨hl, hor⟩ := ho
  rcases hor with ⟨e1, _⟩ | ⟨g', cap, cur, e1, hb, hh, hnc, hcm, hcs, ht⟩
  · cases e1
  · injection e1 with e2 e3 e4
    injection e2 with e2
    injection e2 with e2
    subst e2 e4
    have hown : (Go.Sort.putRow (Value.int .i64) w g 0 zs.toArray).ownsRow base e 1 (.slice (some ⟨g, 0, none⟩) xs.length c) zs.length (encs (Value.int .i64) zs) := by
      rw [hz]
      refine ⟨by rw [encs_length]; omega, .inr ⟨g, c, Go.Sort.putCells (Value.int .i64) 0 zs.toArray cur, rfl, hb, slices_Sort.heap hh _, hnc, hcm, ?_, ?_⟩⟩
      · unfold Go.Sort.putCells
        rw [Array.size_mapIdx]
        exact hcs
      · refine List.ext_getElem? fun j => ?_
        rw [List.getElem?_take]
        by_cases hj : j < xs.length * 1
        · rw [if_pos hj]
          have hjc : j < cur.size := by omega
          have hjz : j < zs.length := by omega
          unfold Go.Sort.putCells encs
          rw [Array.getElem?_toList, Array.getElem?_mapIdx, Array.getElem?_eq_getElem hjc, List.getElem?_map, List.getElem?_eq_getElem hjz]
          simp [hjz]
        · rw [if_neg hj, List.getElem?_eq_none (by rw [encs_length]; omega)]
    rw [hz] at hown
    rw [← hz] at hown ⊢
    exact Kd.R_of_own hown h.1
theorem slices_Sort.grown {d : Kd Int} {base e : Nat} {ok : Nat → Prop} {v : Value} {w : World} {xs : List Int} (h : d.R e w base ok v xs) (os : Array Obj) : d.R e (Go.Sort.grow w os) base ok v xs := by
  refine Kd.R_step h fun k _ hk => ?_
  unfold Go.Sort.grow
  show (w.heap ++ os)[k]? = _
  rw [Array.getElem?_append_left hk]
theorem slices_Sort.below {B g n : Nat} {w0 w : World} (h : Below B w0 w) (hg : B ≤ g) (hB : B ≤ w.heap.size) (d : Array Int) (os : Array Obj) : Below B w0 (Go.Sort.grow (Go.Sort.putRow (Value.int .i64) (Go.Sort.ahead w n) g 0 d) os) := by
  refine ⟨h.os, h.tape, h.output, ?_, fun k hk => ?_⟩
  · refine Nat.le_trans h.size ?_
    show _ ≤ ((w.heap.modify g _) ++ os).size
    rw [Array.size_append, Array.size_modify]
    omega
  · rw [← h.block k hk]
    show ((w.heap.modify g (Go.Sort.onCells _)) ++ os)[k]? = _
    rw [Array.getElem?_append_left (by rw [Array.size_modify]; omega), Array.getElem?_modify, if_neg (by omega)]
def impl_sorted.sort (l : List Int) : List Int := l.mergeSort fun x y => decide (x ≤ y)
set_option maxHeartbeats 800000 in
set_option maxRecDepth 100000 in
theorem slices_Sort.calls (v : Value) (l : List Int) (w0 w : World) (hb : Below w0.heap.size w0 w) (hr : Kd.R (Kd.int .i64) 3 w w0.heap.size (fun _ => True) v l) (hl : l.length ≤ 17592186044416) :
    Calls Try.prog 129 #[v] w fun e w' => e = .returned (.tuple #[]) ∧ Kd.R (Kd.int .i64) 3 w' w0.heap.size (fun _ => True) v (impl_sorted.sort l) ∧ Below w0.heap.size w0 w' := by
  cases l with
  | nil =>
    obtain ⟨A, c, rfl, _, _⟩ := Kd.R_reads hr
    refine (Go.Proofs.AnyM.slices_Sort_int_none slices_Sort.lays A c w).mono ?_
    rintro e w' ⟨rfl, rfl⟩
    have e1 : impl_sorted.sort [] = [] := by unfold impl_sorted.sort; simp
    rw [e1]
    exact ⟨rfl, hr, hb⟩
  | cons x l =>
    obtain ⟨g, c, rfl, gb, gl, cl, hg⟩ := Kd.R_form hr (by simp)
    refine (Go.Proofs.AnyM.slices_Sort_int slices_Sort.lays g 0 c (x :: l) w (slices_Sort.hold hr) gl (by omega)).mono ?_
    rintro e w' ⟨rfl, n, os, rfl⟩
    have h1 : Kd.R (Kd.int .i64) 3 (Go.Sort.ahead w n) w0.heap.size (fun _ => True) (.slice (some ⟨g, 0, none⟩) (x :: l).length c) (x :: l) := Kd.R_step hr fun _ _ _ => rfl
    exact ⟨rfl, slices_Sort.grown (slices_Sort.put h1 (by rw [List.length_mergeSort])) os, slices_Sort.below hb gb hb.size _ os⟩
end Go.Proofs.Ytpdgiinedbdamaa.L
end
section
namespace Go.Proofs.Ytpdgiinedbdamaa.L
open Go.RowKit Go.Proofs.YtpdgiinedbdamaaW.PrintWords Go.Proofs.YtpdgiinedbdamaaW.PrintLast Go.Proofs.YtpdgiinedbdamaaW.PrintMore
attribute [local go_sem] max2_int min2_int max_two min_two max_three min_three max_four min_four
set_option linter.unusedVariables false
set_option linter.unusedSimpArgs false
def impl_sorted.f (l0 : List Int) : Option (List Int) := if l0.length < 17592186044416 then some (impl_sorted.sort l0) else none
set_option maxHeartbeats 800000 in
set_option maxRecDepth 100000 in
theorem impl_sorted.calls (A0 : Option Addr) (c0 : Nat) (l0 : List Int) (r : List Int) (w : World) (hr0 : Kd.C (Kd.int .i64) w A0 l0.length l0) (hc0 : l0.length ≤ c0) (h : impl_sorted.f l0 = some r) :
    Calls Try.prog 92 #[.slice A0 l0.length c0] w fun e w' => ∃ v0_ : Value, e = .returned (v0_) ∧ Kd.R (Kd.int .i64) 3 w' w.heap.size (fun _ => True) v0_ r ∧ Below w.heap.size w w' := by
  unfold impl_sorted.f at h
  split at h
  · rename_i hl
    obtain rfl := Option.some.inj h
    have HL := Aside0.mk hl
    have HR := Aside0.mk hr0
    have HC := Aside0.mk hc0
    have HF := Aside0.mk (show slices_Clone_int_int.f l0 = some l0 from if_pos hl)
    clear h hl hr0 hc0
    go_enter Try.func92, Try.ntmps92
    go_wp2_with fail
    refine (slices_Clone_int_int.calls A0 c0 l0 l0 _ HR.out HC.out HF.out).mono ?_
    rintro e w1 ⟨v1, rfl, hR, hb⟩
    have R1 := Aside0.mk hR
    have B1 := Aside0.mk hb
    clear hR hb
    go_wp2_with fail
    refine (slices_Sort.calls v1 l0 w _ B1.out R1.out (by have := HL.out; omega)).mono ?_
    rintro e w2 ⟨rfl, hR, hb⟩
    have R2 := Aside0.mk hR
    have B2 := Aside0.mk hb
    clear hR hb
    go_wp2
    go_ret
    exact ⟨_, rfl, R2.out, B2.out⟩
  · cases h
end Go.Proofs.Ytpdgiinedbdamaa.L
end
section
namespace Go.Proofs.Ytpdgiinedbdamaa.L
open Go.RowKit Go.Proofs.YtpdgiinedbdamaaW.PrintWords Go.Proofs.YtpdgiinedbdamaaW.PrintLast Go.Proofs.YtpdgiinedbdamaaW.PrintMore
attribute [local go_sem] max2_int min2_int max_two min_two max_three min_three max_four min_four
set_option linter.unusedVariables false
set_option linter.unusedSimpArgs false
def impl_lengths_int.l0 : Nat → List Int → List (List Int) → Int → Int → Option (List Int)
  | 0, _, _, _, _ => none
  | k + 1, x3, x7, x8, x9 => if x9 < x8 then (if 0 ≤ x9 then (if x9 < (x7.length : Int) then (if x3.length < 17592186044416 then (impl_lengths_int.l0 k (x3 ++ [((rd_L1 x7 x9).length : Int)]) x7 x8 (wrap64 (x9 + 1))) else (none)) else (none)) else (none)) else (some x3)
def impl_lengths_int.f (k : Nat) (l0 : List (List Int)) : Option (List Int) := impl_lengths_int.l0 k (([] : List Int)) l0 (l0.length : Int) 0
theorem impl_lengths_int.mono_l : ∀ k, (∀ y0 y1 y2 y3, LeO (impl_lengths_int.l0 k y0 y1 y2 y3) (impl_lengths_int.l0 (k + 1) y0 y1 y2 y3))
  | 0 => fun _ _ _ _ r h => by simp [impl_lengths_int.l0] at h
  | k + 1 => by
    have ih0 := impl_lengths_int.mono_l k
    · intro y0 y1 y2 y3
      unfold impl_lengths_int.l0
      repeat' first
      | (with_reducible exact ih0 _ _ _ _)
      | (with_reducible exact LeO.refl _)
      | (with_reducible exact LeO.none _)
      | (with_reducible refine LeO.ite ?_ ?_)
      | (with_reducible refine LeO.bind ?_ (fun _ => ?_))
      | exact ih0 _ _ _ _
      | exact LeO.none _
      | refine LeO.ite ?_ ?_
      | refine LeO.bind ?_ (fun _ => ?_)
theorem impl_lengths_int.mono : ∀ a0 k, LeO (impl_lengths_int.f k a0) (impl_lengths_int.f (k + 1) a0) := by
  intro a0 k
  have ih0 := impl_lengths_int.mono_l k
  unfold impl_lengths_int.f
  repeat' first
      | (with_reducible exact ih0 _ _ _ _)
      | (with_reducible exact LeO.refl _)
      | (with_reducible exact LeO.none _)
      | (with_reducible refine LeO.ite ?_ ?_)
      | (with_reducible refine LeO.bind ?_ (fun _ => ?_))
      | exact ih0 _ _ _ _
      | exact LeO.none _
      | refine LeO.ite ?_ ?_
      | refine LeO.bind ?_ (fun _ => ?_)
set_option maxHeartbeats 8000000 in
set_option maxRecDepth 100000 in
theorem impl_lengths_int.calls (k : Nat) (A0 : Option Addr) (c0 : Nat) (l0 : List (List Int)) (r : List Int) (w : World) (hr0 : Kd.C (Kd.slice 3 (Kd.int .i64)) w A0 l0.length l0) (hc0 : l0.length ≤ c0) (h : impl_lengths_int.f k l0 = some r) :
    Calls Try.prog 93 #[.slice A0 l0.length c0] w fun e w' => ∃ v0_ : Value, e = .returned (v0_) ∧ Kd.R (Kd.int .i64) 3 w' w.heap.size (fun _ => True) v0_ r ∧ Below w.heap.size w w' := by
  have HR0 := Aside0.mk hr0
  have HC0 := Aside0.mk hc0
  clear hr0 hc0
  have HB := Aside0.mk (Below.refl w.heap.size w)
  have H : (impl_lengths_int.l0 k (([] : List Int)) l0 (l0.length : Int) 0) = some r := h
  clear h
  obtain ⟨y1049, hy1049⟩ : ∃ y_ : List Int, y_ = (([] : List Int)) := ⟨_, rfl⟩
  replace H : (impl_lengths_int.l0 k y1049 l0 (l0.length : Int) 0) = some r := by first | (rw [hy1049]; with_reducible exact H) | (have H2_ := (Option.bind_some _ _).symm.trans H; rw [hy1049]; with_reducible exact H2_) | (have H2_ := (Option.bind_some _ _).symm.trans H; with_reducible exact H2_) | with_reducible exact H | (rw [hy1049]; exact H) | exact H
  have Ny1049 := Aside0.mk hy1049
  clear hy1049
  have H' := Aside0.mk H
  clear H
  go_enter Try.func93, Try.ntmps93
  go_wp2_with (first | ((with_reducible refine gate_dst (N := 6) rfl ?_); refine Kd.R_lit (Kd.int .i64) _ 3 ?hg (N := 6) ?hd (xs := ([] : List Int)) (inner := []) (ok := fun _ => True) (okp := fun _ => True) ?hr ?hp (fun _ hk => hk) trivial (Below.refl _ _) (Nat.le_refl _) (by simp) ?_; (case hd => rfl); (case hg => rfl); (case hr => first | (go_simp; done) | (go_simp; rfl)); (case hp => exact (Reps.none _ _)); intro v1050 w2 ho3 hb hg_ hnew_; clear hg_ hnew_; (first | rw [← Ny1049.out] at ho3 | (simp only [Int.reduceToNat] at ho3; rw [← Ny1049.out] at ho3)); have n0_ := Aside0.mk (Kd.R_lower ho3 (below_size (by repeat (first | (with_reducible first | exact HB.out | apply below_alloc | apply pw_below_drewN | apply below_drew1) | exact HB.out)))); have n1_ := Aside0.mk (below_step (by repeat (first | (with_reducible first | exact HB.out | apply below_alloc | apply pw_below_drewN | apply below_drew1) | exact HB.out)) hb); clear HB; have HO1051 := n0_; have HB := n1_; clear n0_ n1_; clear hb ho3))
  go_loopg [3, 9] k (fun kq v3 v9 w' => ∃ (x3_1 : List Int) (x9_1 : Int), v9 = .int .i64 x9_1 ∧ Aside0 (impl_lengths_int.l0 kq x3_1 l0 (l0.length : Int) x9_1 = some r) ∧ Aside0 (kq ≤ k) ∧ Aside0 (Kd.R (Kd.int .i64) 3 w' w.heap.size (fun _ => True) v3 x3_1) ∧ Aside0 (Below w.heap.size w w'))
  case atStart => exact ⟨(y1049), (0), (by first | rfl | (simp; done) | (simp [*]; done)), H', ⟨Nat.le_refl _⟩, ⟨by (with_reducible repeat (first | apply Kd.R_alloc | apply Kd.R_drewN | apply Kd.R_drew)); exact HO1051.out⟩, ⟨by repeat (first | (with_reducible first | exact HB.out | apply below_alloc | apply pw_below_drewN | apply below_drew1) | exact HB.out)⟩⟩
  case round =>
    clear H'
    try clear p2
    obtain ⟨x3_1, x9_1, rfl, HA, HK1, HO_3, HB⟩ := hrel
    cases gk with
    | zero => exact absurd HA.out (by simp [impl_lengths_int.l0])
    | succ k1 =>
      have H := HA.out
      clear HA
      simp only [impl_lengths_int.l0] at H
      by_cases c4 : x9_1 < (l0.length : Int)
      · rw [if_pos c4] at H
        have c4b0 : decide (x9_1 < (l0.length : Int)) = true := decide_eq_true c4
        clear c4
        by_cases c5 : 0 ≤ x9_1
        · rw [if_pos c5] at H
          have c5b0 : decide (0 ≤ x9_1) = true := decide_eq_true c5
          clear c5
          by_cases c6 : x9_1 < (l0.length : Int)
          · rw [if_pos c6] at H
            have c6b0 : decide (x9_1 < (l0.length : Int)) = true := decide_eq_true c6
            clear c6
            by_cases c7 : x3_1.length < 17592186044416
            · rw [if_pos c7] at H
              have LMc7 := Aside0.mk c7
              clear c7
              obtain ⟨y1053, hy1053⟩ : ∃ y_ : List Int, y_ = (x3_1 ++ [((rd_L1 l0 x9_1).length : Int)]) := ⟨_, rfl⟩
              replace H : (impl_lengths_int.l0 k1 y1053 l0 (l0.length : Int) (wrap64 (x9_1 + 1))) = some r := by first | (rw [hy1053]; with_reducible exact H) | (have H2_ := (Option.bind_some _ _).symm.trans H; rw [hy1053]; with_reducible exact H2_) | (have H2_ := (Option.bind_some _ _).symm.trans H; with_reducible exact H2_) | with_reducible exact H | (rw [hy1053]; exact H) | exact H
              have Ny1053 := Aside0.mk hy1053
              clear hy1053
              have H' := Aside0.mk H
              clear H
              have p1052 : 0 ≤ (x9_1 : Int) := of_decide_eq_true (by first | (with_reducible assumption) | assumption)
              have q1052 : x9_1 < (l0.length : Int) := of_decide_eq_true (by first | (with_reducible assumption) | assumption)
              obtain ⟨ad1052, A1052_0, c1052_0, e1052, hx1052_0, hl1052_0, hi1052_0⟩ := at_L1 HR0.out x9_1 p1052 q1052
              cases e1052
              replace hx1052_0 := (HB.out.cell (World.block_lt_of_cell? w _ hx1052_0)).trans hx1052_0
              have HR1052_0 := Aside0.mk hi1052_0
              have HC1052_0 := Aside0.mk hl1052_0
              clear hi1052_0 hl1052_0
              replace p1052 := eq_true p1052
              replace q1052 := eq_true q1052
              go_wp2_with (first | ((with_reducible refine gate_builtin (b := .append) (xs := #[.tmp 13, .tmp 16]) rfl ?_); at_builtin; refine Kd.R_append (Kd.int .i64) (w0 := w) w.heap.size rfl (.tmp 13) (.tmp 16) 22 3 (.int .i64 0) 8 rfl Try.underlying22 info3 rfl (by decide) (by omega) u3 x3_1 ((rd_L1 l0 x9_1).length : Int) [.int .i64 ((rd_L1 l0 x9_1).length : Int)] (fun _ => True) (fun _ => False) rfl rfl ?aP (fun _ hk => hk.elim) ?aF ?aO ?aB ?aS ?aL ?_; (case aP => exact rfl); (case aB => exact (by repeat (first | (with_reducible first | exact HB.out | apply below_alloc | apply pw_below_drewN | apply below_drew1) | exact HB.out))); (case aF => exact (fun _ _ => trivial)); (case aO => exact (by (with_reducible repeat (first | apply Kd.R_alloc | apply Kd.R_drewN | apply Kd.R_drew)); exact HO_3.out)); (case aS => exact (below_size (by repeat (first | (with_reducible first | exact HB.out | apply below_alloc | apply pw_below_drewN | apply below_drew1) | exact HB.out)))); (case aL => have := LMc7.out; omega); intro v1054 w8 ho hb hg hat; rw [← Ny1053.out] at ho; have n0_ := Aside0.mk (hb); have n1_ := Aside0.mk (ho); clear HB; clear HO_3; have HB := n0_; have HO1055 := n1_; clear n0_ n1_; clear ho hb hg hat))
              go_roundg k1
              case measure => have := HK1.out; omega
              case rel => exact ⟨(y1053), (wrap64 (x9_1 + 1)), (by first | rfl | (simp; done) | (simp [*]; done)), H', ⟨by have := HK1.out; omega⟩, ⟨by (with_reducible repeat (first | apply Kd.R_alloc | apply Kd.R_drewN | apply Kd.R_drew)); exact HO1055.out⟩, ⟨by repeat (first | (with_reducible first | exact HB.out | apply below_alloc | apply pw_below_drewN | apply below_drew1) | exact HB.out)⟩⟩
            · rw [if_neg c7] at H
              exact absurd H (by simp)
          · rw [if_neg c6] at H
            exact absurd H (by simp)
        · rw [if_neg c5] at H
          exact absurd H (by simp)
      · rw [if_neg c4] at H
        have c4b0 : decide (x9_1 < (l0.length : Int)) = false := decide_eq_false c4
        clear c4
        obtain rfl := Option.some.inj H
        go_wp2
        go_ret
        exact ⟨_, by first | rfl | (simp [errW_none, errW_some] <;> rfl) | (simp [*, errW_none, errW_some] <;> rfl), by (with_reducible repeat (first | apply Kd.R_alloc | apply Kd.R_drewN | apply Kd.R_drew)); exact HO_3.out, by repeat (first | (with_reducible first | exact HB.out | apply below_alloc | apply pw_below_drewN | apply below_drew1) | exact HB.out)⟩
end Go.Proofs.Ytpdgiinedbdamaa.L
end
section
namespace Go.Proofs.Ytpdgiinedbdamaa.L
open Go.RowKit Go.Proofs.YtpdgiinedbdamaaW.PrintWords Go.Proofs.YtpdgiinedbdamaaW.PrintLast Go.Proofs.YtpdgiinedbdamaaW.PrintMore
attribute [local go_sem] max2_int min2_int max_two min_two max_three min_three max_four min_four
set_option linter.unusedVariables false
set_option linter.unusedSimpArgs false
def impl_cycles_int.Fvb (P : Program) (g : Nat) (bd lb : Array Value) (x r : Value) (w : World) : Prop :=
  ∀ W, Below w.heap.size w W → Calls P g (bd.push x ++ lb) W fun e w' => e = .returned r ∧ Below W.heap.size W w'
theorem impl_cycles_int.Fvb.calls {P : Program} {g : Nat} {bd lb : Array Value} {x r : Value} {w W : World} (h : impl_cycles_int.Fvb P g bd lb x r w) (hb : Below w.heap.size w W) :
    Calls P g (bd.push x ++ lb) W fun e w' => e = .returned r ∧ Below W.heap.size W w' := h W hb
theorem impl_cycles_int.bool_inv {H : Type} {P : Program} {e : TypeId} (he : P.underlying e = some .bool) {v : Value} {z : DataW H × List MemPlace} (h : plainElem P e v = some z) : ∃ c, v = .bool c ∧ z = (.lit (.bool c), []) := by
  unfold plainElem at h
  rw [he] at h
  cases v <;> simp at h
  exact ⟨_, rfl, h.symm⟩
theorem impl_cycles_int.look {H : Type} {P : Program} (w : World) {ops : Array Oper} {rest : List Oper} {o : Oper} {a : Act} {Q : Exit → Act → World → Prop}
    (hg : o.guard = none) (m x : Operand) (t : TypeId) (hop : o.op = Op.lookup t m x false)
    (k e : TypeId) (K : Go.Maps.Keyed P k) (ht : P.underlying t = some (.map k e)) (he : P.underlying e = some .bool) (hz : (zeroValue e).run P w = .ok (.bool false) w) (b n : Nat) (D : DataW H)
    (hm : a.eval m = .map (some b)) (hown : w.ownsMap P k (plainElem P e) b n D) (key : Value) (kl : Lit) (hx : a.eval x = key) (hkey : keyOf P k key = some kl) (r : Bool) (hr : D.atKey kl (.lit (.bool false)) = .lit (.bool r))
    (hK : wpList P ops Q rest (a.put o.dst (.bool r)) w) :
    wpList P ops Q (o :: rest) a w := by
  refine wpList_plain hg fun K' hK' => ?_
  obtain ⟨v, ps, hrun, hv⟩ := hown.lookup K ht hz (plainElem_bool he false) hkey
  obtain ⟨c, rfl, hc⟩ := impl_cycles_int.bool_inv he hv
  simp only [Prod.mk.injEq] at hc
  rw [hr] at hc
  have hcr : r = c := by have := hc.1; injection this with this; injection this
  subst hcr
  unfold Oper.wp
  simp [execOp, hop, hm, hx, hrun, Result.andThen]
  exact hK' _ _ hK
def impl_cycles_int.own : Nat → (Int → Option Int) → List Int → List Int → Int → Option (List Int × List Int)
  | 0, _, _, _, _ => none
  | k + 1, m, met, own, x => if (Lit.int .i64 x).wf = true then (if met.contains x = true then some (met, own) else if met.length < 17592186044416 then (if own.length < 17592186044416 then (m x).bind fun y => impl_cycles_int.own k m (met ++ [x]) (own ++ [x]) y else none) else none) else none
def impl_cycles_int.go (k : Nat) (m : Int → Option Int) : List Int → List Int → List (List Int) → Option (List (List Int))
  | [], _, out => some out
  | x :: l, met, out => if (Lit.int .i64 x).wf = true then (if met.contains x = true then impl_cycles_int.go k m l met out else (impl_cycles_int.own k m met [] x).bind fun r => if out.length < 5864062014805 then impl_cycles_int.go k m l r.1 (out ++ [r.2]) else none) else none
def impl_cycles_int.f (k : Nat) (m : Int → Option Int) (l0 : List Int) : Option (List (List Int)) := impl_cycles_int.go k m l0 [] []
theorem impl_cycles_int.own_mono {m m' : Int → Option Int} (hm : ∀ x, LeO (m x) (m' x)) : ∀ k met own x, LeO (impl_cycles_int.own k m met own x) (impl_cycles_int.own (k + 1) m' met own x)
  | 0, _, _, _ => fun r h => by cases h
  | k + 1, met, own, x => by
    rw [impl_cycles_int.own, impl_cycles_int.own]
    exact LeO.ite (LeO.ite (LeO.refl _) (LeO.ite (LeO.ite (LeO.bind (hm _) fun y => impl_cycles_int.own_mono hm k _ _ _) (LeO.refl _)) (LeO.refl _))) (LeO.refl _)
theorem impl_cycles_int.go_mono {m m' : Int → Option Int} (hm : ∀ x, LeO (m x) (m' x)) (k : Nat) : ∀ l met out, LeO (impl_cycles_int.go k m l met out) (impl_cycles_int.go (k + 1) m' l met out)
  | [], met, out => LeO.refl _
  | x :: l, met, out => by
    rw [impl_cycles_int.go, impl_cycles_int.go]
    exact LeO.ite (LeO.ite (impl_cycles_int.go_mono hm k l _ _) (LeO.bind (impl_cycles_int.own_mono hm k _ _ _) fun r => LeO.ite (impl_cycles_int.go_mono hm k l _ _) (LeO.refl _))) (LeO.refl _)
theorem impl_cycles_int.mono {m m' : Int → Option Int} (hm : ∀ x, LeO (m x) (m' x)) (k : Nat) (l : List Int) : LeO (impl_cycles_int.f k m l) (impl_cycles_int.f (k + 1) m' l) := impl_cycles_int.go_mono hm k l _ _
theorem impl_cycles_int.zeroE (w : World) : (zeroValue 4).run Try.prog w = .ok (.bool false) w := by kernel_rfl
theorem impl_cycles_int.law : Go.Maps.Keyed Try.prog 3 := Go.Maps.int_keyed Try.underlying3
theorem impl_cycles_int.put_at {D : DataW Unit} {met : List Int} {x : Int} (hD : Go.Maps.IsMap D) (h : ∀ y, D.atKey (.int .i64 y) (.lit (.bool false)) = .lit (.bool (met.contains y))) (y : Int) :
    (D.put (.int .i64 x) (.lit (.bool true))).atKey (.int .i64 y) (.lit (.bool false)) = .lit (.bool ((met ++ [x]).contains y)) := by
  by_cases e : y = x
  · subst e
    rw [Go.Maps.atKey_put_same hD (show WideAt.IsKeyLit (.int .i64 y) from trivial)]
    simp
  · rw [Go.Maps.atKey_put_other (fun he => e (by injection he)), h y]
    simp [e]
open Go.Proofs.Ytpdgiinedbdamaa.X in
set_option maxHeartbeats 1600000 in
set_option maxRecDepth 100000 in
theorem impl_cycles_int.calls (k : Nat) (A0 : Option Addr) (c0 : Nat) (l0 : List Int) (gF : Nat) (bdF lbF : Array Value) (m : Int → Option Int) (r : List (List Int)) (w : World) (eg : ∀ args w, (callFunc gF args).run Try.prog w = .ok (.enter gF args) w)
    (hr0 : Kd.C (Kd.int .i64) w A0 l0.length l0) (hl : l0.length ≤ 9223372036854775806) (hp : ∀ x y, m x = some y → impl_cycles_int.Fvb Try.prog gF bdF lbF (.int .i64 x) (.int .i64 y) w) (h : impl_cycles_int.f k m l0 = some r) :
    Calls Try.prog 95 #[.slice A0 l0.length c0, .func (.func gF) bdF lbF] w fun e w' => ∃ v0_ : Value, e = .returned v0_ ∧ Kd.S (Kd.slice 3 (Kd.int .i64)) 22 w' w.heap.size (fun _ => True) v0_ r ∧ Below w.heap.size w w' := by
  have HR := Aside0.mk hr0
  have HL := Aside0.mk hl
  have HP := Aside0.mk hp
  have HF := Aside0.mk h
  have HB := Aside0.mk (Below.refl w.heap.size w)
  clear hr0 hl hp h
  have hmm := @run_makeMap Try.prog
  go_enter Try.func95, Try.ntmps95
  go_wp2_with (first | ((with_reducible refine gate_dst (N := 11) rfl ?_); refine Kd.S_lit (Kd.slice 3 (Kd.int .i64)) _ 22 ?hg (N := 11) ?hd (xs := ([] : List (List Int))) (inner := []) (ok := fun _ => True) (okp := fun _ => True) ?hr ?hp (fun _ hk => hk) trivial (Below.refl _ _) (Nat.le_refl _) (by simp) ?_; (case hd => rfl); (case hg => rfl); (case hr => first | (go_simp; done) | (go_simp; rfl)); (case hp => exact (Reps.none _ _)); intro v11 w2 ho hb hg_ hnew_; have HO := Aside0.mk ho; have B2 := Aside0.mk hb; clear ho hb hg_ hnew_))
  obtain ⟨W0, hW0⟩ : ∃ W0, W0 = w2.alloc (.map #[] 0) := ⟨_, rfl⟩
  rw [← hW0]
  have M0 := Aside0.mk (show W0.ownsMap (H := Unit) Try.prog 3 (plainElem Try.prog 4) w2.heap.size 0 (.map []) by rw [hW0]; exact World.ownsMap_made _ _ _ _)
  have R0 := Aside0.mk (show Kd.S (Kd.slice 3 (Kd.int .i64)) 22 W0 w.heap.size (fun k => k ≠ w2.heap.size) v11 [] by rw [hW0]; exact Kd.S_alloc (Kd.S_mono (Kd.S_bound HO.out) (fun k hk => by have := hk.2.2.1; omega)) _)
  have B3 := Aside0.mk (show Below w.heap.size w W0 by rw [hW0]; exact below_alloc B2.out _)
  have GB := Aside0.mk (show w.heap.size ≤ w2.heap.size from B2.out.size)
  generalize w2.heap.size = b at M0 R0 GB ⊢
  clear hW0 HO B2 hmm
  go_loopw [5, 15] (fun v5 v15 wr => ∃ (q : Nat) (met : List Int) (out : List (List Int)) (D : DataW Unit), v15 = .int .i64 q ∧ q ≤ l0.length ∧ Aside0 (impl_cycles_int.go k m (l0.drop q) met out = some r) ∧ Aside0 (wr.ownsMap Try.prog 3 (plainElem Try.prog 4) b met.length D) ∧ Aside0 (∀ y, D.atKey (.int .i64 y) (.lit (.bool false)) = .lit (.bool (met.contains y))) ∧ Aside0 (Kd.S (Kd.slice 3 (Kd.int .i64)) 22 wr w.heap.size (fun k => k ≠ b) v5 out) ∧ Aside0 (Below w.heap.size w wr)) (fun _ v15 _ => l0.length - (intOf v15).toNat)
  case atStart => exact ⟨0, [], [], _, rfl, Nat.zero_le _, ⟨by rw [List.drop_zero]; exact HF.out⟩, M0, ⟨fun y => rfl⟩, R0, B3⟩
  case round =>
    obtain ⟨q, met, out, D, rfl, hq, HG, HM, HD, HO, HB⟩ := hrel
    by_cases hlt : q < l0.length
    · have hG := HG.out
      rw [List.drop_eq_getElem_cons hlt, impl_cycles_int.go] at hG
      split at hG
      · rename_i hwf
        have WF := Aside0.mk hwf
        obtain ⟨ad, e1, hx0⟩ := Kd.at_int (Kd.C_below HR.out HB.out) (q : Int) (by omega) (by omega)
        rw [Int.toNat_natCast] at hx0
        cases e1
        have hx : wr.cell? (ad.add q) = some (.int .i64 l0[q]) := by rw [hx0, show rd l0 (q : Int) = l0[q] by simp [rd, List.getD_eq_getElem?_getD, hlt]]
        have e2 : wrap64 ((q : Int) + 1) = ((q + 1 : Nat) : Int) := by have := HL.out; unfold wrap64; omega
        obtain ⟨x, hxe⟩ : ∃ x, x = l0[q] := ⟨_, rfl⟩
        rw [← hxe] at hx hG WF
        clear hxe hwf hx0
        have p1 : 0 ≤ ((q : Nat) : Int) := by omega
        have q1 : ((q : Nat) : Int) < (l0.length : Int) := by omega
        by_cases hc : met.contains x = true
        · rw [if_pos hc] at hG
          have HC := Aside0.mk hc
          have HG2 := Aside0.mk hG
          clear hc hG HG
          go_wp2_with (first | (at_lookup; refine impl_cycles_int.look _ rfl _ _ 92 rfl 3 4 impl_cycles_int.law Try.underlying92 Try.underlying4 (impl_cycles_int.zeroE _) b met.length D rfl HM.out _ (.int .i64 x) rfl (Go.Maps.keyOf_int_mk Try.underlying3 WF.out) true (by rw [HD.out, HC.out]) ?_))
          go_roundw
          case rel => exact ⟨q + 1, met, out, D, by first | rfl | go_num, by omega, HG2, HM, HD, HO, HB⟩
          case measure => (try simp only [e2]); exact (Nat.sub_lt_sub_left (by omega) (Nat.lt_succ_self q) : l0.length - (q + 1) < l0.length - q)
        · rw [if_neg hc] at hG
          obtain ⟨rr, hrr, hG⟩ := Option.bind_eq_some_iff.mp hG
          split at hG
          · rename_i hol
            have HOL := Aside0.mk hol
            have HC := Aside0.mk (show met.contains x = false by simpa using hc)
            have HG2 := Aside0.mk hG
            have HRR := Aside0.mk hrr
            have F5 := Aside0.mk (show ∀ k_, wr.heap.size ≤ k_ → k_ ≠ b ∧ some k_ ≠ (u5 : Value).ownBlock from fun k_ hk => ⟨by have := HM.out.lt; omega, fun e => by have := Kd.S_lt HO.out k_ e.symm; omega⟩)
            clear hol hc hG hrr HG
            go_wp2_with (first | (at_lookup; refine impl_cycles_int.look _ rfl _ _ 92 rfl 3 4 impl_cycles_int.law Try.underlying92 Try.underlying4 (impl_cycles_int.zeroE _) b met.length D rfl HM.out _ (.int .i64 x) rfl (Go.Maps.keyOf_int_mk Try.underlying3 WF.out) false (by rw [HD.out, HC.out]) ?_) | ((with_reducible refine gate_dst (N := 22) rfl ?_); refine Kd.R_lit (Kd.int .i64) w.heap.size 3 ?hg (N := 22) ?hd (xs := ([] : List Int)) (inner := []) (ok := fun k_ => k_ ≠ b ∧ some k_ ≠ (u5 : Value).ownBlock) (okp := fun k_ => k_ ≠ b ∧ some k_ ≠ (u5 : Value).ownBlock) ?hr ?hp (fun _ hk => hk) (F5.out _ (Nat.le_refl _)) HB.out HB.out.size (by simp) ?_; (case hd => rfl); (case hg => rfl); (case hr => first | (go_simp; done) | (go_simp; rfl)); (case hp => exact (Reps.none _ _)); intro v22 w4 ho hb hg hnew; have HW := Aside0.mk ho; have B4 := Aside0.mk hb; have HM4 := Aside0.mk (HM.out.kept hg (by simp)); have HO4 := Aside0.mk (show Kd.S (Kd.slice 3 (Kd.int .i64)) 22 w4 w.heap.size (fun k_ => k_ ≠ b ∧ some k_ ≠ (v22 : Value).ownBlock) u5 out from Kd.S_grown (Kd.S_mono (Kd.S_bound HO.out) (fun k_ hk => ⟨hk.1, fun e => by obtain ⟨b', h1, h2⟩ := hnew; rw [h1] at e; injection e with e; have := hk.2.2.1; omega⟩)) hg (fun _ _ => by simp)); clear ho hb hg hnew HM HO))
            have LO := Aside0.mk (fun (k_ : Nat) (e : (u5 : Value).ownBlock = some k_) => Kd.S_lt HO4.out k_ e)
            have BL := Aside0.mk HM4.out.lt
            have SZ4 := Aside0.mk (Nat.le_refl w4.heap.size)
            go_loopg [9, 10] k (fun kq v9 v10 wi => ∃ (met1 own : List Int) (y : Int) (D1 : DataW Unit), v10 = .int .i64 y ∧ Aside0 (impl_cycles_int.own kq m met1 own y = some rr) ∧ Aside0 (kq ≤ k) ∧ Aside0 (wi.ownsMap Try.prog 3 (plainElem Try.prog 4) b met1.length D1) ∧ Aside0 (∀ y, D1.atKey (.int .i64 y) (.lit (.bool false)) = .lit (.bool (met1.contains y))) ∧ Aside0 (Kd.S (Kd.slice 3 (Kd.int .i64)) 22 wi w.heap.size (fun k_ => k_ ≠ b ∧ some k_ ≠ (v9 : Value).ownBlock) u5 out) ∧ Aside0 (Kd.R (Kd.int .i64) 3 wi w.heap.size (fun k_ => k_ ≠ b ∧ some k_ ≠ (u5 : Value).ownBlock) v9 own) ∧ Aside0 (w4.heap.size ≤ wi.heap.size) ∧ Aside0 (Below w.heap.size w wi))
            case atStart => exact ⟨met, [], x, D, rfl, HRR, ⟨Nat.le_refl _⟩, HM4, HD, HO4, HW, SZ4, B4⟩
            case round =>
              clear HM4 HD HO4 HW SZ4 B4
              obtain ⟨met1, own, y, D1, rfl, HA, HK1, HM, HD, HO, HW, SZ, HB⟩ := hrel
              cases gk with
              | zero => exact absurd HA.out (by simp [impl_cycles_int.own])
              | succ k1 =>
                have hA := HA.out
                rw [impl_cycles_int.own] at hA
                split at hA
                · rename_i hwf
                  have WF2 := Aside0.mk hwf
                  clear hwf HA
                  by_cases hc : met1.contains y = true
                  · rw [if_pos hc] at hA
                    have hrr := Option.some.inj hA
                    subst hrr
                    have HC2 := Aside0.mk hc
                    clear hA hc
                    obtain ⟨Ao, co, eo⟩ := Kd.R_slice HW.out
                    subst eo
                    go_wp2_with (first | (at_lookup; refine impl_cycles_int.look _ rfl _ _ 92 rfl 3 4 impl_cycles_int.law Try.underlying92 Try.underlying4 (impl_cycles_int.zeroE _) b met1.length D1 rfl HM.out _ (.int .i64 y) rfl (Go.Maps.keyOf_int_mk Try.underlying3 WF2.out) true (by rw [HD.out, HC2.out]) ?_) | ((with_reducible refine gate_builtin (b := .append) (xs := #[.tmp 37, .tmp 39]) rfl ?_); at_builtin; refine Kd.S_append (Kd.slice 3 (Kd.int .i64)) (w0 := w) w.heap.size rfl (.tmp 37) (.tmp 39) 32 22 (.slice none 0 0) 24 rfl Try.underlying32 info22 rfl (by decide) (by omega) u5 out own _ (fun k_ => k_ ≠ b) (fun k_ => some k_ = (Value.slice Ao own.length co).ownBlock) rfl rfl ?aP (fun k_ hk => HW.out.1 k_ hk.symm) ?aF ?aO ?aB ?aS ?aL ?_; (case aP => exact Kd.M_row (Kd.R_tight rfl HW.out)); (case aF => exact fun k_ hk => by have := HM.out.lt; omega); (case aO => exact HO.out); (case aB => exact HB.out); (case aS => exact HB.out.size); (case aL => have := HOL.out; omega); intro v40 w8 ho hb hg hat; have HO8 := Aside0.mk ho; have B8 := Aside0.mk hb; have HM8 := Aside0.mk (HM.out.kept hg (Kd.S_away HO.out (fun _ hk => hk.1))); clear ho hb hg hat))
                    go_roundw
                    case rel => exact ⟨q + 1, met1, out ++ [own], D1, by first | rfl | go_num, by omega, HG2, HM8, HD, HO8, B8⟩
                    case measure => (try simp only [e2]); exact (Nat.sub_lt_sub_left (by omega) (Nat.lt_succ_self q) : l0.length - (q + 1) < l0.length - q)
                  · rw [if_neg hc] at hA
                    split at hA
                    · rename_i hml
                      split at hA
                      · rename_i hol2
                        obtain ⟨z, hz, hA⟩ := Option.bind_eq_some_iff.mp hA
                        have HC2 := Aside0.mk (show met1.contains y = false by simpa using hc)
                        have HA2 := Aside0.mk hA
                        have HZ := Aside0.mk (HP.out y z hz)
                        have HML := Aside0.mk hml
                        have HOL2 := Aside0.mk hol2
                        clear hc hA hz hml hol2
                        go_wp2_with (first | (at_lookup; refine impl_cycles_int.look _ rfl _ _ 92 rfl 3 4 impl_cycles_int.law Try.underlying92 Try.underlying4 (impl_cycles_int.zeroE _) b met1.length D1 rfl HM.out _ (.int .i64 y) rfl (Go.Maps.keyOf_int_mk Try.underlying3 WF2.out) false (by rw [HD.out, HC2.out]) ?_) | (at_mapUpdate; refine wpList_mapUpdate_own _ rfl _ _ _ 92 rfl 3 4 impl_cycles_int.law Try.underlying92 (plainElem Try.prog 4) b met1.length D1 rfl HM.out (by have := HML.out; unfold maxLen; omega) _ _ (.int .i64 y) rfl rfl (Go.Maps.keyOf_int_mk Try.underlying3 WF2.out) (.lit (.bool true)) [] (plainElem_bool Try.underlying4 true) ?_; intro w5 hm5 hg5; have HM5 := Aside0.mk hm5; have HO5 := Aside0.mk (Kd.S_grown HO.out hg5 (fun k_ hk => by intro e; injection e with e; exact hk.1 e)); have HW5 := Aside0.mk (Kd.R_grown HW.out hg5 (fun k_ hk => by intro e; injection e with e; exact hk.1 e)); have B5 := Aside0.mk (pw_below_grown HB.out (some b) HB.out.size hg5 (fun k_ e => by injection e with e; rw [← e]; exact GB.out)); have SZ5 := Aside0.mk (Nat.le_trans SZ.out hg5.size); clear hm5 hg5) | ((with_reducible refine gate_builtin (b := .append) (xs := #[.tmp 33, .tmp 35]) rfl ?_); at_builtin; refine Kd.R_append (Kd.int .i64) (w0 := w) w.heap.size rfl (.tmp 33) (.tmp 35) 22 3 (.int .i64 0) 8 rfl Try.underlying22 info3 rfl (by decide) (by omega) u9 own y [.int .i64 y] (fun k_ => k_ ≠ b ∧ some k_ ≠ (u5 : Value).ownBlock) (fun _ => False) rfl rfl ?aP (fun _ hk => hk.elim) ?aF ?aO ?aB ?aS ?aL ?_; (case aP => exact rfl); (case aF => exact fun k_ hk => ⟨by have := BL.out; have := SZ5.out; omega, fun e => by have := LO.out k_ e.symm; have := SZ5.out; omega⟩); (case aO => exact HW5.out); (case aB => exact B5.out); (case aS => exact B5.out.size); (case aL => have := HOL2.out; omega); intro v36 w6 ho hb hg hat; have HW6 := Aside0.mk ho; have B6 := Aside0.mk hb; have HM6 := Aside0.mk (HM5.out.kept hg (fun e => (HW5.out.1 b e.symm).1 rfl)); have HO6 := Aside0.mk (Kd.S_after (v := u9) (v1 := v36) (ok := fun k_ => k_ ≠ b) HO5.out hg hat); have SZ6 := Aside0.mk (Nat.le_trans SZ5.out hg.size); clear ho hb hg hat) | (go_at_fn gF; (with_reducible refine (impl_cycles_int.Fvb.calls HZ.out B6.out).mono ?_); rintro e w7 ⟨rfl, hb⟩; have B7 := Aside0.mk (below_to B6.out hb); have HW7 := Aside0.mk (Kd.R_below HW6.out hb); have HO7 := Aside0.mk (Kd.S_below HO6.out hb); have HM7 := Aside0.mk (HM6.out.kept (grown_of_below hb none) (by simp)); have SZ7 := Aside0.mk (Nat.le_trans SZ6.out hb.size); clear hb))
                        go_roundg k1
                        case measure => have := HK1.out; omega
                        case rel => exact ⟨met1 ++ [y], own ++ [y], z, _, rfl, HA2, ⟨by have := HK1.out; omega⟩, ⟨by rw [List.length_append]; exact HM7.out⟩, ⟨impl_cycles_int.put_at HM.out.isMap HD.out⟩, HO7, HW7, SZ7, B7⟩
                      · cases hA
                    · cases hA
                · cases hA
          · cases hG
      · cases hG
    · have e1 : r = out := by
        have := HG.out
        rw [List.drop_of_length_le (by omega), impl_cycles_int.go] at this
        exact (Option.some.inj this).symm
      subst e1
      go_wp2
      go_ret
      exact ⟨_, rfl, Kd.S_mono HO.out (fun _ _ => trivial), HB.out⟩
end Go.Proofs.Ytpdgiinedbdamaa.L
end
section
namespace Go.Proofs.Ytpdgiinedbdamaa.L
open Go.RowKit Go.Proofs.YtpdgiinedbdamaaW.PrintWords Go.Proofs.YtpdgiinedbdamaaW.PrintLast Go.Proofs.YtpdgiinedbdamaaW.PrintMore
attribute [local go_sem] max2_int min2_int max_two min_two max_three min_three max_four min_four
set_option linter.unusedVariables false
set_option linter.unusedSimpArgs false
def impl_GyrationLengths.f (k : Nat) (l0 : List Int) : Option (List Int × Bool) := (impl_isRanked.f k l0).bind fun t => if t = true then (impl_Poset_gyration.f k l0).bind fun wd => (impl_Poset_ideals.f k l0).bind fun s => if s.length ≤ 9223372036854775806 then (impl_cycles_int.f k (fun x => impl_Poset_toggleRanks.f k l0 x wd) s).bind fun cy => (impl_lengths_int.f k cy).bind fun ls => (impl_sorted.f ls).bind fun q => some (q, true) else none else some ([], false)
theorem impl_GyrationLengths.mono : ∀ a0 k, LeO (impl_GyrationLengths.f k a0) (impl_GyrationLengths.f (k + 1) a0) := fun l0 k =>
  LeO.bind (impl_isRanked.mono _ _) fun t => LeO.ite (LeO.bind (impl_Poset_gyration.mono _ _) fun wd => LeO.bind (impl_Poset_ideals.mono _ _) fun s => LeO.ite (LeO.bind (impl_cycles_int.mono (fun x => impl_Poset_toggleRanks.mono _ _ _ _) k s) fun cy => LeO.bind (impl_lengths_int.mono _ _) fun ls => LeO.refl _) (LeO.refl _)) (LeO.refl _)
open Go.Proofs.Ytpdgiinedbdamaa.X in
set_option maxHeartbeats 800000 in
set_option maxRecDepth 100000 in
theorem impl_GyrationLengths.lit (k : Nat) (A0 : Option Addr) (c0 : Nat) (l0 : List Int) (A2 : Option Addr) (c2 : Nat) (wd : List Int) (s v : Int) (B1 B2 : Nat) (w : World) (hr0 : Kd.C (Kd.int .i64) w A0 l0.length l0) (hc0 : l0.length ≤ c0) (hr2 : Kd.C (Kd.int .i64) w A2 wd.length wd) (hc2 : wd.length ≤ c2)
    (q1 : w.cell? ⟨B1, 0, none⟩ = some (.slice A0 l0.length c0)) (q2 : w.cell? ⟨B2, 0, none⟩ = some (.slice A2 wd.length c2)) (h : impl_Poset_toggleRanks.f k l0 s wd = some v) :
    impl_cycles_int.Fvb Try.prog 96 #[] #[.pointer (some ⟨B1, 0, none⟩), .pointer (some ⟨B2, 0, none⟩)] (.int .i64 s) (.int .i64 v) w := by
  intro W hb
  have p1 := pw_cell_below hb q1
  have p2 := pw_cell_below hb q2
  have HR := Aside0.mk (Kd.C_below hr0 hb)
  have HR2 := Aside0.mk (Kd.C_below hr2 hb)
  have HC := Aside0.mk hc0
  have HC2 := Aside0.mk hc2
  have HV := Aside0.mk h
  clear h hr0 hr2 hb hc0 hc2 q1 q2
  have hu := Try.underlying28
  show Calls Try.prog 96 #[.int .i64 s, .pointer (some ⟨B1, 0, none⟩), .pointer (some ⟨B2, 0, none⟩)] W _
  go_enter Try.func96, Try.ntmps96
  go_wp2_with fail
  refine (impl_Poset_toggleRanks.calls k _ _ l0 s _ _ wd v _ HR.out HC.out HR2.out HC2.out HV.out).mono ?_
  rintro e w1 ⟨rfl, hb⟩
  have B1 := Aside0.mk hb
  clear hb
  go_wp2
  go_ret
  exact ⟨rfl, B1.out⟩
open Go.Proofs.Ytpdgiinedbdamaa.X in
set_option maxHeartbeats 1600000 in
set_option maxRecDepth 100000 in
theorem impl_GyrationLengths.calls (k : Nat) (A0_0 : Option Addr) (c0_0 : Nat) (l0_0 : List Int) (r1 : List Int) (r2 : Bool) (w : World) (hr0_0 : Kd.C (Kd.int .i64) w A0_0 l0_0.length l0_0) (hc0_0 : l0_0.length ≤ c0_0) (h : impl_GyrationLengths.f k l0_0 = some (r1, r2)) :
    Calls Try.prog 44 #[.agg #[.slice A0_0 l0_0.length c0_0]] w fun e w' => ∃ v0_ : Value, e = .returned (.tuple #[v0_, .bool r2]) ∧ Kd.R (Kd.int .i64) 3 w' w.heap.size (fun _ => True) v0_ r1 ∧ Below w.heap.size w w' := by
  have HR := Aside0.mk hr0_0
  have HC := Aside0.mk hc0_0
  clear hr0_0 hc0_0
  unfold impl_GyrationLengths.f at h
  obtain ⟨t, ht, h⟩ := Option.bind_eq_some_iff.mp h
  have HT := Aside0.mk ht
  clear ht
  have hu := Try.underlying28
  have B0 := Aside0.mk (below_alloc (Below.refl w.heap.size w) (.cells #[.slice A0_0 l0_0.length c0_0] 28))
  cases t with
  | false =>
    have h' : some (([] : List Int), false) = some (r1, r2) := h
    injection h' with h'
    injection h' with h1 h2
    subst h1 h2
    clear h
    go_enter Try.func44, Try.ntmps44
    go_wp2_with fail
    refine (impl_isRanked.calls k _ _ l0_0 false _ (Kd.C_below HR.out B0.out) HC.out HT.out).mono ?_
    rintro e w1 ⟨rfl, hb⟩
    have B1 := Aside0.mk (below_to B0.out hb)
    clear hb
    go_wp2
    go_ret2
    exact ⟨_, rfl, Kd.R_nil _ _ _ _ _, B1.out⟩
  | true =>
    rw [if_pos rfl] at h
    obtain ⟨wd, hwd, h⟩ := Option.bind_eq_some_iff.mp h
    obtain ⟨s, hs, h⟩ := Option.bind_eq_some_iff.mp h
    split at h
    · rename_i hl
      obtain ⟨cy, hcy, h⟩ := Option.bind_eq_some_iff.mp h
      obtain ⟨ls, hls, h⟩ := Option.bind_eq_some_iff.mp h
      obtain ⟨q, hq, h⟩ := Option.bind_eq_some_iff.mp h
      injection h with h
      injection h with h1 h2
      subst h1 h2
      have HW := Aside0.mk hwd
      have HS := Aside0.mk hs
      have HL := Aside0.mk hl
      have HCY := Aside0.mk hcy
      have HLS := Aside0.mk hls
      have HQ := Aside0.mk hq
      clear hwd hs hl hcy hls hq
      go_enter Try.func44, Try.ntmps44
      go_wp2_with fail
      refine (impl_isRanked.calls k _ _ l0_0 true _ (Kd.C_below HR.out B0.out) HC.out HT.out).mono ?_
      rintro e w1 ⟨rfl, hb⟩
      have x1 := pw_cell_below hb (show (w.alloc (.cells #[.slice A0_0 l0_0.length c0_0] 28)).cell? ⟨w.heap.size, 0, none⟩ = some (.slice A0_0 l0_0.length c0_0) by simp)
      have B1 := Aside0.mk (below_to B0.out hb)
      clear hb
      go_wp2_with fail
      refine (impl_Poset_gyration.calls k _ _ l0_0 wd _ (Kd.C_below HR.out B1.out) HC.out HW.out).mono ?_
      rintro e w3 ⟨v0, rfl, hR, hb⟩
      obtain ⟨A2, c2, rfl, hl2, hC2⟩ := Kd.R_reads hR
      have x3 := Aside0.mk (pw_cell_below hb x1)
      have B3 := Aside0.mk (below_to B1.out hb)
      have C3 := Aside0.mk hC2
      have L3 := Aside0.mk hl2
      clear hb x1 hR hC2 hl2
      have x4 : ∀ o, (World.alloc w3 o).cell? ⟨w.heap.size, 0, none⟩ = some (.slice A0_0 l0_0.length c0_0) := fun o => pw_cell_below (below_alloc (Below.refl w3.heap.size w3) o) x3.out
      go_wp2_with fail
      obtain ⟨W4, hW4⟩ : ∃ W4, W4 = w3.alloc (.cells #[.slice A2 wd.length c2] 22) := ⟨_, rfl⟩
      rw [← hW4]
      have B4 := Aside0.mk (show Below w.heap.size w W4 by rw [hW4]; exact below_alloc B3.out _)
      have C4 := Aside0.mk (show Kd.C (Kd.int .i64) W4 A2 wd.length wd by rw [hW4]; exact Kd.C_alloc C3.out _)
      have y1 := Aside0.mk (show W4.cell? ⟨w.heap.size, 0, none⟩ = some (.slice A0_0 l0_0.length c0_0) by rw [hW4]; exact x4 _)
      have y2 := Aside0.mk (show W4.cell? ⟨w3.heap.size, 0, none⟩ = some (.slice A2 wd.length c2) by rw [hW4]; simp)
      generalize w3.heap.size = b3 at y2 ⊢
      clear hW4 x4 x3 C3 B3
      refine (impl_Poset_ideals.calls k _ _ l0_0 s _ (Kd.C_below HR.out B4.out) HC.out HS.out).mono ?_
      rintro e w5 ⟨v1, rfl, hR1, hb1⟩
      obtain ⟨A5, c5, rfl, hl5, hC5⟩ := Kd.R_reads hR1
      have C5 := Aside0.mk hC5
      have B5 := Aside0.mk hb1
      clear hR1 hb1 hC5 hl5
      go_wp2_with fail
      refine (impl_cycles_int.calls k A5 c5 s 96 #[] #[.pointer (some ⟨w.heap.size, 0, none⟩), .pointer (some ⟨b3, 0, none⟩)] (fun x => impl_Poset_toggleRanks.f k l0_0 x wd) cy _ (enters_ Try.func96 (by kernel_rfl) rfl) C5.out HL.out (fun x y h => impl_GyrationLengths.lit k A0_0 c0_0 l0_0 A2 c2 wd x y _ _ _ (Kd.C_below HR.out (below_to B4.out B5.out)) HC.out (Kd.C_below C4.out B5.out) L3.out (pw_cell_below B5.out y1.out) (pw_cell_below B5.out y2.out) h) HCY.out).mono ?_
      rintro e w6 ⟨v2, rfl, hR2, hb2⟩
      obtain ⟨A6, c6, rfl, hl6, hC6⟩ := Kd.S_reads hR2
      have B6 := Aside0.mk (below_to (below_to B4.out B5.out) hb2)
      have C6 := Aside0.mk hC6
      have L6 := Aside0.mk hl6
      clear hR2 hb2 hC6 hl6
      go_wp2_with fail
      refine (impl_lengths_int.calls k _ _ cy ls _ C6.out L6.out HLS.out).mono ?_
      rintro e w7 ⟨v3, rfl, hR3, hb3⟩
      obtain ⟨A7, c7, rfl, hl7, hC7⟩ := Kd.R_reads hR3
      have B7 := Aside0.mk (below_to B6.out hb3)
      have C7 := Aside0.mk hC7
      have L7 := Aside0.mk hl7
      clear hR3 hb3 hC7 hl7
      go_wp2_with fail
      refine (impl_sorted.calls _ _ ls q _ C7.out L7.out HQ.out).mono ?_
      rintro e w8 ⟨v4, rfl, hR4, hb4⟩
      have R8 := Aside0.mk (Kd.R_lower hR4 (show w.heap.size ≤ w7.heap.size from B7.out.size))
      have B8 := Aside0.mk (below_to B7.out hb4)
      clear hR4 hb4
      go_wp2
      go_ret2
      exact ⟨_, rfl, R8.out, B8.out⟩
    · cases h
end Go.Proofs.Ytpdgiinedbdamaa.L
end
