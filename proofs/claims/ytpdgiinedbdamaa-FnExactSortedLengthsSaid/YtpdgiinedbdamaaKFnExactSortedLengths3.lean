/- Laws about the given program: the law FnExactSortedLengths answers true for every input that its row lets in; no condition is added to the given statement. Contracts of the Go functions that it reaches, and the plain proof over lists. -/
import Derived.Test.YtpdgiinedbdamaaWFnExactSortedLengths0
import Derived.Test.YtpdgiinedbdamaaKFnExactSortedLengths0
import Derived.Test.YtpdgiinedbdamaaKFnExactSortedLengths1
import Derived.Test.YtpdgiinedbdamaaKFnExactSortedLengths2
section
namespace Go.Proofs.Ytpdgiinedbdamaa.L
open Go.RowKit Go.Proofs.YtpdgiinedbdamaaW.PrintWords Go.Proofs.YtpdgiinedbdamaaW.PrintLast Go.Proofs.YtpdgiinedbdamaaW.PrintMore
attribute [local go_sem] max2_int min2_int max_two min_two max_three min_three max_four min_four
set_option linter.unusedVariables false
variable [Fn1]
set_option linter.unusedSimpArgs false
def impl_Poset_sets.l0 : Nat → List Int → Int → Int → Option (List Int)
 | 0, _, _, _ => none
 | k + 1, x5, x10, x11 => if x11 < x10 then ((impl_Poset_ideals_1.f x11).bind fun t825 => (if t825 = true then (if x5.length < 17592186044416 then (impl_Poset_sets.l0 k (x5 ++ [x11]) x10 (wrap64 (x11 + 1))) else (none)) else (impl_Poset_sets.l0 k x5 x10 (wrap64 (x11 + 1))))) else (some x5)
def impl_Poset_sets.f (k : Nat) (l0_0 : List Int) (a1 : Int) : Option (List Int) := (impl_Poset_all.f l0_0).bind fun t824 => (impl_Poset_sets.l0 k (([] : List Int)) (wrap64 (t824 + 1)) 0)
theorem impl_Poset_sets.mono_l : ∀ k, (∀ y0 y1 y2, LeO (impl_Poset_sets.l0 k y0 y1 y2) (impl_Poset_sets.l0 (k + 1) y0 y1 y2))
 | 0 => fun _ _ _ r h => by simp [impl_Poset_sets.l0] at h
 | k + 1 => by
  have ih0 := impl_Poset_sets.mono_l k
  ·
   intro y0 y1 y2
   unfold impl_Poset_sets.l0
   repeat' first
   | (with_reducible exact ih0 _ _ _)
   | (with_reducible exact LeO.refl _)
   | (with_reducible exact LeO.none _)
   | (with_reducible refine LeO.ite ?_ ?_)
   | (with_reducible refine LeO.bind ?_ (fun _ => ?_))
   | exact ih0 _ _ _
   | exact LeO.none _
   | refine LeO.ite ?_ ?_
   | refine LeO.bind ?_ (fun _ => ?_)
theorem impl_Poset_sets.mono : ∀ a0 a1 k, LeO (impl_Poset_sets.f k a0 a1) (impl_Poset_sets.f (k + 1) a0 a1) := by
 intro a0 a1 k
 have ih0 := impl_Poset_sets.mono_l k
 unfold impl_Poset_sets.f
 repeat' first
   | (with_reducible exact ih0 _ _ _)
   | (with_reducible exact LeO.refl _)
   | (with_reducible exact LeO.none _)
   | (with_reducible refine LeO.ite ?_ ?_)
   | (with_reducible refine LeO.bind ?_ (fun _ => ?_))
   | exact ih0 _ _ _
   | exact LeO.none _
   | refine LeO.ite ?_ ?_
   | refine LeO.bind ?_ (fun _ => ?_)
set_option maxHeartbeats 8000000 in
set_option maxRecDepth 100000 in
open Go.Proofs.Ytpdgiinedbdamaa.X in
theorem impl_Poset_sets.calls (gF : Nat) (lbF : Array Value) (eg : ∀ args w, (callFunc gF args).run Try.prog w = .ok (.enter gF args) w) (k : Nat) (A0_0 : Option Addr) (c0_0 : Nat) (l0_0 : List Int) (a1 : Int) (r : List Int) (w : World) (hr0_0 : Kd.C (Kd.int .i64) w A0_0 l0_0.length l0_0) (hc0_0 : l0_0.length ≤ c0_0) (hpF : ∀ x0_ b, impl_Poset_ideals_1.f x0_ = some b → Fv Try.prog gF lbF #[.int .i64 x0_] (.bool b) w) (h : impl_Poset_sets.f k l0_0 a1 = some r) :
  Calls Try.prog 123 #[.agg #[.slice A0_0 l0_0.length c0_0], .func (.func gF) #[] lbF] w fun e w' => ∃ v0_ : Value, e = .returned (v0_) ∧ Kd.R (Kd.int .i64) 3 w' w.heap.size (fun _ => True) v0_ r ∧ Below w.heap.size w w' := by
 have HP := Aside0.mk hpF
 clear hpF
 have hu28 := Try.underlying28
 have HR0_0 := Aside0.mk hr0_0
 have HC0_0 := Aside0.mk hc0_0
 clear hr0_0 hc0_0
 have HB := Aside0.mk (Below.refl w.heap.size w)
 have H : ((impl_Poset_all.f l0_0).bind fun t824 => (impl_Poset_sets.l0 k (([] : List Int)) (wrap64 (t824 + 1)) 0)) = some r := h
 clear h
 obtain ⟨y821, hy821⟩ : ∃ y_ : List Int, y_ = (([] : List Int)) := ⟨_, rfl⟩
 replace H : ((impl_Poset_all.f l0_0).bind fun t824 => (impl_Poset_sets.l0 k y821 (wrap64 (t824 + 1)) 0)) = some r := by first | (rw [hy821]; with_reducible exact H) | (have H2_ := (Option.bind_some _ _).symm.trans H; rw [hy821]; with_reducible exact H2_) | (have H2_ := (Option.bind_some _ _).symm.trans H; with_reducible exact H2_) | with_reducible exact H | (rw [hy821]; exact H) | exact H
 have Ny821 := Aside0.mk hy821
 clear hy821
 replace H := Option.bind_eq_some_iff.mp H
 obtain ⟨t824, A30, H⟩ := H
 replace H : (impl_Poset_sets.l0 k y821 (wrap64 (t824 + 1)) 0) = some r := H
 have A3 := Aside0.mk A30
 clear A30
 have H' := Aside0.mk H
 clear H
 go_enter Try.func123, Try.ntmps123
 go_wp2_with (first | ((with_reducible refine gate_dst (N := 2) rfl ?_); refine box_event ?hg (N := 2) ?hd (cs := #[.slice A0_0 l0_0.length c0_0]) (t := 28) ?hr ?_; (case hd => rfl); (case hg => rfl); (case hr => first | (go_simp; done) | (go_simp; rfl)); intro gb820 hg w4 hbox hb; have n0_ := Aside0.mk (below_step (by repeat (first | (with_reducible first | exact HB.out | apply below_alloc | apply pw_below_drewN | apply below_drew1) | exact HB.out)) hb); have n1_ := Aside0.mk (hbox); have n2_ := Aside0.mk ((by rw [hg]; exact (below_size (by repeat (first | (with_reducible first | exact HB.out | apply below_alloc | apply pw_below_drewN | apply below_drew1) | exact HB.out))) : w.heap.size ≤ gb820)); have n3_ := Aside0.mk ((by rw [hg]; exact (below_size (by repeat (first | (with_reducible first | exact HB.out | apply below_alloc | apply pw_below_drewN | apply below_drew1) | exact HB.out))) : w.heap.size ≤ gb820)); clear HB; have HB := n0_; have BK820 := n1_; have GW820 := n2_; have GE820 := n3_; clear n0_ n1_ n2_ n3_; clear hb hbox hg) | ((with_reducible refine gate_dst (N := 7) rfl ?_); refine Kd.R_lit (Kd.int .i64) _ 3 ?hg (N := 7) ?hd (xs := ([] : List Int)) (inner := []) (ok := fun _ => True) (okp := fun _ => True) ?hr ?hp (fun _ hk => hk) trivial (Below.refl _ _) (Nat.le_refl _) (by simp) ?_; (case hd => rfl); (case hg => rfl); (case hr => first | (go_simp; done) | (go_simp; rfl)); (case hp => exact (Reps.none _ _)); intro v822 w5 ho6 hb hg_ hnew_; clear hg_ hnew_; (first | rw [← Ny821.out] at ho6 | (simp only [Int.reduceToNat] at ho6; rw [← Ny821.out] at ho6)); have n0_ := Aside0.mk (Kd.R_lower ho6 (below_size (by repeat (first | (with_reducible first | exact HB.out | apply below_alloc | apply pw_below_drewN | apply below_drew1 | refine below_set ?_ GE820.out) | exact HB.out)))); have n1_ := Aside0.mk (blk_below (g := gb820) (o := .cells #[.slice A0_0 l0_0.length c0_0] 28 (0, 0)) (by (with_reducible repeat (first | refine blk_drewN ?_ _ | refine blk_drew ?_ | refine blk_alloc ?_ _)); exact BK820.out) hb); have n2_ := Aside0.mk (below_step (by repeat (first | (with_reducible first | exact HB.out | apply below_alloc | apply pw_below_drewN | apply below_drew1 | refine below_set ?_ GE820.out) | exact HB.out)) hb); clear BK820; clear HB; have HO823 := n0_; have BK820 := n1_; have HB := n2_; clear n0_ n1_ n2_; clear hb ho6; have hcz7_0 : w5.cell? ⟨gb820, 0, none⟩ = some (.slice A0_0 l0_0.length c0_0) := (blk_cell BK820.out 0).trans rfl; have hfz7_0 := blk_frozen BK820.out 0) | ((with_reducible refine gate_callee (f := 156) rfl ?_); refine goesL_ (some 9) rfl rfl Try.func156 (by kernel_rfl) rfl #[.agg #[.slice A0_0 l0_0.length c0_0]] rfl (by (try simp only [List.map_toArray, List.map_cons, List.map_nil]); first | done | rfl | (simp only [List.length_drop, List.length_take]; rfl)) ?_; (with_reducible refine (impl_Poset_all.calls _ _ l0_0 t824 _ ?side1 ?side2 A3.out).mono ?_); (case side1 => repeat (first | exact (Kd.C_below HR0_0.out HB.out) | (with_reducible refine Kd.C_alloc ?_ _) | (with_reducible refine Kd.C_drewN ?_ _) | (with_reducible refine Kd.C_drew ?_))); (case side2 => exact HC0_0.out); rintro e w8 ⟨rfl, hb⟩; refine ⟨_, rfl, ?_⟩; have n0_ := Aside0.mk (Kd.R_below (by (with_reducible repeat (first | apply Kd.R_alloc | apply Kd.R_drewN | apply Kd.R_drew)); exact HO823.out) hb); have n1_ := Aside0.mk (blk_below (g := gb820) (o := .cells #[.slice A0_0 l0_0.length c0_0] 28 (0, 0)) (by (with_reducible repeat (first | refine blk_drewN ?_ _ | refine blk_drew ?_ | refine blk_alloc ?_ _)); exact BK820.out) hb); have n2_ := Aside0.mk (below_step (by repeat (first | (with_reducible first | exact HB.out | apply below_alloc | apply pw_below_drewN | apply below_drew1 | refine below_set ?_ GE820.out) | exact HB.out)) hb); clear HO823; clear BK820; clear HB; have HO823 := n0_; have BK820 := n1_; have HB := n2_; clear n0_ n1_ n2_; (try clear hb); (try clear hb2); (try clear hk); (try clear hi)))
 go_loopg [5, 11] k (fun kq v5 v11 w' => ∃ (x5_1 : List Int) (x11_1 : Int), v11 = .int .i64 x11_1 ∧ Aside0 (impl_Poset_sets.l0 kq x5_1 (wrap64 (t824 + 1)) x11_1 = some r) ∧ Aside0 (kq ≤ k) ∧ Aside0 (Kd.R (Kd.int .i64) 3 w' w.heap.size (fun _ => True) v5 x5_1) ∧ Aside0 (w'.heap[gb820]? = some (.cells #[(.slice A0_0 l0_0.length c0_0)] 28 (0, 0))) ∧ Aside0 (Below w.heap.size w w'))
 case atStart => exact ⟨(y821), (0), (by first | rfl | (simp; done) | (simp [*]; done)), H', ⟨Nat.le_refl _⟩, ⟨by (with_reducible repeat (first | apply Kd.R_alloc | apply Kd.R_drewN | apply Kd.R_drew)); exact HO823.out⟩, ⟨by (with_reducible repeat (first | refine blk_drewN ?_ _ | refine blk_drew ?_ | refine blk_alloc ?_ _)); exact BK820.out⟩, ⟨by repeat (first | (with_reducible first | exact HB.out | apply below_alloc | apply pw_below_drewN | apply below_drew1 | refine below_set ?_ GE820.out) | exact HB.out)⟩⟩
 case round =>
  clear H'
  try clear c1
  try clear p2
  try clear p6
  try clear hcz7_0
  try clear hfz7_0
  obtain ⟨x5_1, x11_1, rfl, HA, HK1, HO_5, BK820, HB⟩ := hrel
  cases gk with
  | zero => exact absurd HA.out (by simp [impl_Poset_sets.l0])
  | succ k1 =>
   have H := HA.out
   clear HA
   simp only [impl_Poset_sets.l0] at H
   by_cases c9 : x11_1 < (wrap64 (t824 + 1))
   ·
    rw [if_pos c9] at H
    have c9b0 : decide (x11_1 < (wrap64 (t824 + 1))) = true := decide_eq_true c9
    clear c9
    replace H := Option.bind_eq_some_iff.mp H
    obtain ⟨t825, A100, H⟩ := H
    replace H : (if t825 = true then (if x5_1.length < 17592186044416 then (impl_Poset_sets.l0 k1 (x5_1 ++ [x11_1]) (wrap64 (t824 + 1)) (wrap64 (x11_1 + 1))) else (none)) else (impl_Poset_sets.l0 k1 x5_1 (wrap64 (t824 + 1)) (wrap64 (x11_1 + 1)))) = some r := H
    have A10 := Aside0.mk A100
    clear A100
    by_cases c11 : t825 = true
    ·
     subst c11
     have H1 : (if x5_1.length < 17592186044416 then (impl_Poset_sets.l0 k1 (x5_1 ++ [x11_1]) (wrap64 (t824 + 1)) (wrap64 (x11_1 + 1))) else (none)) = some r := by rw [if_pos rfl] at H; exact H
     clear H
     have H := H1
     clear H1
     by_cases c12 : x5_1.length < 17592186044416
     ·
      rw [if_pos c12] at H
      have LMc12 := Aside0.mk c12
      clear c12
      obtain ⟨y826, hy826⟩ : ∃ y_ : List Int, y_ = (x5_1 ++ [x11_1]) := ⟨_, rfl⟩
      replace H : (impl_Poset_sets.l0 k1 y826 (wrap64 (t824 + 1)) (wrap64 (x11_1 + 1))) = some r := by first | (rw [hy826]; with_reducible exact H) | (have H2_ := (Option.bind_some _ _).symm.trans H; rw [hy826]; with_reducible exact H2_) | (have H2_ := (Option.bind_some _ _).symm.trans H; with_reducible exact H2_) | with_reducible exact H | (rw [hy826]; exact H) | exact H
      have Ny826 := Aside0.mk hy826
      clear hy826
      have H' := Aside0.mk H
      clear H
      go_wp2_with (first | (go_at_fn gF; (with_reducible refine (Fv.calls (HP.out _ _ A10.out) (by repeat (first | (with_reducible first | exact HB.out | apply below_alloc | apply pw_below_drewN | apply below_drew1 | refine below_set ?_ GE820.out) | exact HB.out))).mono ?_); rintro e w13 ⟨rfl, hb⟩; have n0_ := Aside0.mk (Kd.R_below (by (with_reducible repeat (first | apply Kd.R_alloc | apply Kd.R_drewN | apply Kd.R_drew)); exact HO_5.out) hb); have n1_ := Aside0.mk (blk_below (g := gb820) (o := .cells #[.slice A0_0 l0_0.length c0_0] 28 (0, 0)) (by (with_reducible repeat (first | refine blk_drewN ?_ _ | refine blk_drew ?_ | refine blk_alloc ?_ _)); exact BK820.out) hb); have n2_ := Aside0.mk (below_step (by repeat (first | (with_reducible first | exact HB.out | apply below_alloc | apply pw_below_drewN | apply below_drew1 | refine below_set ?_ GE820.out) | exact HB.out)) hb); clear HO_5; clear BK820; clear HB; have HO_5 := n0_; have BK820 := n1_; have HB := n2_; clear n0_ n1_ n2_; (try clear hb); (try clear hb2); (try clear hk); (try clear hi)) | ((with_reducible refine gate_builtin (b := .append) (xs := #[.tmp 17, .tmp 19]) rfl ?_); at_builtin; refine Kd.R_append (Kd.int .i64) (w0 := w) w.heap.size rfl (.tmp 17) (.tmp 19) 22 3 (.int .i64 0) 8 rfl Try.underlying22 info3 rfl (by decide) (by omega) u5 x5_1 x11_1 [.int .i64 x11_1] (fun _ => True) (fun _ => False) rfl rfl ?aP (fun _ hk => hk.elim) ?aF ?aO ?aB ?aS ?aL ?_; (case aP => exact rfl); (case aB => exact (by repeat (first | (with_reducible first | exact HB.out | apply below_alloc | apply pw_below_drewN | apply below_drew1 | refine below_set ?_ GE820.out) | exact HB.out))); (case aF => exact (fun _ _ => trivial)); (case aO => exact (by (with_reducible repeat (first | apply Kd.R_alloc | apply Kd.R_drewN | apply Kd.R_drew)); exact HO_5.out)); (case aS => exact (below_size (by repeat (first | (with_reducible first | exact HB.out | apply below_alloc | apply pw_below_drewN | apply below_drew1 | refine below_set ?_ GE820.out) | exact HB.out)))); (case aL => have := LMc12.out; omega); intro v827 w14 ho hb hg hat; rw [← Ny826.out] at ho; have n0_ := Aside0.mk (blk_grown (g := gb820) (o := .cells #[.slice A0_0 l0_0.length c0_0] 28 (0, 0)) (by (with_reducible repeat (first | refine blk_drewN ?_ _ | refine blk_drew ?_ | refine blk_alloc ?_ _)); exact BK820.out) hg (Kd.R_ne HO_5.out BK820.out (by decide))); have n1_ := Aside0.mk (hb); have n2_ := Aside0.mk (ho); clear BK820; clear HB; clear HO_5; have BK820 := n0_; have HB := n1_; have HO828 := n2_; clear n0_ n1_ n2_; clear ho hb hg hat))
      go_roundg k1
      case measure => have := HK1.out; omega
      case rel => exact ⟨(y826), (wrap64 (x11_1 + 1)), (by first | rfl | (simp; done) | (simp [*]; done)), H', ⟨by have := HK1.out; omega⟩, ⟨by (with_reducible repeat (first | apply Kd.R_alloc | apply Kd.R_drewN | apply Kd.R_drew)); exact HO828.out⟩, ⟨by (with_reducible repeat (first | refine blk_drewN ?_ _ | refine blk_drew ?_ | refine blk_alloc ?_ _)); exact BK820.out⟩, ⟨by repeat (first | (with_reducible first | exact HB.out | apply below_alloc | apply pw_below_drewN | apply below_drew1 | refine below_set ?_ GE820.out) | exact HB.out)⟩⟩
     ·
      rw [if_neg c12] at H
      exact absurd H (by simp)
    ·
     replace c11 := Bool.eq_false_iff.mpr c11
     subst c11
     have H1 : (impl_Poset_sets.l0 k1 x5_1 (wrap64 (t824 + 1)) (wrap64 (x11_1 + 1))) = some r := by rw [if_neg (show ¬ (false = true) by decide)] at H; exact H
     clear H
     have H := H1
     clear H1
     have H' := Aside0.mk H
     clear H
     go_wp2_with (first | (go_at_fn gF; (with_reducible refine (Fv.calls (HP.out _ _ A10.out) (by repeat (first | (with_reducible first | exact HB.out | apply below_alloc | apply pw_below_drewN | apply below_drew1 | refine below_set ?_ GE820.out) | exact HB.out))).mono ?_); rintro e w15 ⟨rfl, hb⟩; have n0_ := Aside0.mk (Kd.R_below (by (with_reducible repeat (first | apply Kd.R_alloc | apply Kd.R_drewN | apply Kd.R_drew)); exact HO_5.out) hb); have n1_ := Aside0.mk (blk_below (g := gb820) (o := .cells #[.slice A0_0 l0_0.length c0_0] 28 (0, 0)) (by (with_reducible repeat (first | refine blk_drewN ?_ _ | refine blk_drew ?_ | refine blk_alloc ?_ _)); exact BK820.out) hb); have n2_ := Aside0.mk (below_step (by repeat (first | (with_reducible first | exact HB.out | apply below_alloc | apply pw_below_drewN | apply below_drew1 | refine below_set ?_ GE820.out) | exact HB.out)) hb); clear HO_5; clear BK820; clear HB; have HO_5 := n0_; have BK820 := n1_; have HB := n2_; clear n0_ n1_ n2_; (try clear hb); (try clear hb2); (try clear hk); (try clear hi)))
     go_roundg k1
     case measure => have := HK1.out; omega
     case rel => exact ⟨(x5_1), (wrap64 (x11_1 + 1)), (by first | rfl | (simp; done) | (simp [*]; done)), H', ⟨by have := HK1.out; omega⟩, ⟨by (with_reducible repeat (first | apply Kd.R_alloc | apply Kd.R_drewN | apply Kd.R_drew)); exact HO_5.out⟩, ⟨by (with_reducible repeat (first | refine blk_drewN ?_ _ | refine blk_drew ?_ | refine blk_alloc ?_ _)); exact BK820.out⟩, ⟨by repeat (first | (with_reducible first | exact HB.out | apply below_alloc | apply pw_below_drewN | apply below_drew1 | refine below_set ?_ GE820.out) | exact HB.out)⟩⟩
   ·
    rw [if_neg c9] at H
    have c9b0 : decide (x11_1 < (wrap64 (t824 + 1))) = false := decide_eq_false c9
    clear c9
    obtain rfl := Option.some.inj H
    go_wp2
    go_ret
    exact ⟨_, by first | rfl | (simp [errW_none, errW_some] <;> rfl) | (simp [*, errW_none, errW_some] <;> rfl), by (with_reducible repeat (first | apply Kd.R_alloc | apply Kd.R_drewN | apply Kd.R_drew)); exact HO_5.out, by repeat (first | (with_reducible first | exact HB.out | apply below_alloc | apply pw_below_drewN | apply below_drew1 | refine below_set ?_ GE820.out) | exact HB.out)⟩
end Go.Proofs.Ytpdgiinedbdamaa.L
end
section
namespace Go.Proofs.Ytpdgiinedbdamaa.L
open Go.RowKit Go.Proofs.YtpdgiinedbdamaaW.PrintWords Go.Proofs.YtpdgiinedbdamaaW.PrintLast Go.Proofs.YtpdgiinedbdamaaW.PrintMore
attribute [local go_sem] max2_int min2_int max_two min_two max_three min_three max_four min_four
set_option linter.unusedVariables false
set_option linter.unusedSimpArgs false
@[reducible] def impl_Poset_ideals.inst (k : Nat) (l0 : List Int) : Fn1 := ⟨fun s => (impl_Poset_close.f k l0 s).map (· == s)⟩
def impl_Poset_ideals.f (k : Nat) (l0_0 : List Int) : Option (List Int) := @impl_Poset_sets.f (impl_Poset_ideals.inst k l0_0) k l0_0 0
theorem impl_Poset_ideals.mono_i (i i' : Fn1) (hi : ∀ s, LeO (i.p s) (i'.p s)) : ∀ k y0 y1 y2, LeO (@impl_Poset_sets.l0 i k y0 y1 y2) (@impl_Poset_sets.l0 i' k y0 y1 y2)
 | 0, _, _, _ => fun r h => by cases h
 | k + 1, y0, y1, y2 => by
  rw [@impl_Poset_sets.l0.eq_2 i, @impl_Poset_sets.l0.eq_2 i']
  exact LeO.ite (LeO.bind (hi _) (fun t => LeO.ite (LeO.ite (impl_Poset_ideals.mono_i i i' hi k _ _ _) (LeO.refl _)) (impl_Poset_ideals.mono_i i i' hi k _ _ _))) (LeO.refl _)
theorem impl_Poset_ideals.mono : ∀ a0 k, LeO (impl_Poset_ideals.f k a0) (impl_Poset_ideals.f (k + 1) a0) := by
 intro l0 k
 refine LeO.trans (@impl_Poset_sets.mono (impl_Poset_ideals.inst k l0) _ _ k) ?_
 unfold impl_Poset_sets.f
 refine LeO.bind (LeO.refl _) (fun t => impl_Poset_ideals.mono_i _ _ (fun s r h => ?_) _ _ _ _)
 obtain ⟨v, hv, e⟩ := Option.map_eq_some_iff.mp h
 exact Option.map_eq_some_iff.mpr ⟨v, impl_Poset_close.mono _ _ _ _ hv, e⟩
open Go.Proofs.Ytpdgiinedbdamaa.X in
set_option maxHeartbeats 800000 in
set_option maxRecDepth 100000 in
theorem impl_Poset_ideals.lit (k : Nat) (A0 : Option Addr) (c0 : Nat) (l0 : List Int) (s : Int) (t : Bool) (B : Nat) (w : World) (hr0 : Kd.C (Kd.int .i64) w A0 l0.length l0) (hc0 : l0.length ≤ c0) (hB : B < w.heap.size) (hc : w.cell? ⟨B, 0, none⟩ = some (.slice A0 l0.length c0)) (h : (impl_Poset_ideals.inst k l0).p s = some t) :
  Fv Try.prog 124 #[.pointer (some ⟨B, 0, none⟩)] #[.int .i64 s] (.bool t) w := by
 intro W hb
 have hc' : W.cell? ⟨B, 0, none⟩ = some (.slice A0 l0.length c0) := (hb.cell (p := ⟨B, 0, none⟩) hB).trans hc
 obtain ⟨v, hv, rfl⟩ := Option.map_eq_some_iff.mp h
 have HV := Aside0.mk hv
 have HR := Aside0.mk (Kd.C_below hr0 hb)
 have HC := Aside0.mk hc0
 clear h hv hr0 hb hc hc0
 have hu := Try.underlying28
 go_enter Try.func124, Try.ntmps124
 go_wp2_with (go_at_call 125; (with_reducible refine (impl_Poset_close.calls k _ _ l0 s v _ HR.out HC.out HV.out).mono ?_); rintro e w1 ⟨rfl, hb⟩)
 go_ret
 exact ⟨rfl, hb⟩
open Go.Proofs.Ytpdgiinedbdamaa.X in
set_option maxHeartbeats 800000 in
set_option maxRecDepth 100000 in
theorem impl_Poset_ideals.calls (k : Nat) (A0_0 : Option Addr) (c0_0 : Nat) (l0_0 : List Int) (r : List Int) (w : World) (hr0_0 : Kd.C (Kd.int .i64) w A0_0 l0_0.length l0_0) (hc0_0 : l0_0.length ≤ c0_0) (h : impl_Poset_ideals.f k l0_0 = some r) :
  Calls Try.prog 81 #[.agg #[.slice A0_0 l0_0.length c0_0]] w fun e w' => ∃ v0_ : Value, e = .returned (v0_) ∧ Kd.R (Kd.int .i64) 3 w' w.heap.size (fun _ => True) v0_ r ∧ Below w.heap.size w w' := by
 unfold impl_Poset_ideals.f at h
 have HF := Aside0.mk h
 have HR := Aside0.mk hr0_0
 have HC := Aside0.mk hc0_0
 clear h hr0_0 hc0_0
 have hu := Try.underlying28
 go_enter Try.func81, Try.ntmps81
 go_wp2_with fail
 have B0 := Aside0.mk (below_alloc (Below.refl w.heap.size w) (.cells #[.slice A0_0 l0_0.length c0_0] 28))
 refine (@impl_Poset_sets.calls (impl_Poset_ideals.inst k l0_0) 124 #[.pointer (some ⟨w.heap.size, 0, none⟩)] (enters_ Try.func124 (by kernel_rfl) rfl) k _ _ l0_0 0 r _ (Kd.C_below HR.out B0.out) HC.out (fun s b hb => impl_Poset_ideals.lit k A0_0 c0_0 l0_0 s b w.heap.size _ (Kd.C_below HR.out B0.out) HC.out (by simp) (by simp) hb) HF.out).mono ?_
 rintro e w2 ⟨v0, rfl, hR, hb⟩
 have hR2 := Kd.R_lower hR (show w.heap.size ≤ _ by simp)
 have B2 := Aside0.mk (below_to B0.out hb)
 have HO := Aside0.mk hR2
 clear hR hR2 hb
 go_wp2
 go_ret
 exact ⟨_, rfl, HO.out, B2.out⟩
end Go.Proofs.Ytpdgiinedbdamaa.L
end
section
namespace Go.Proofs.Ytpdgiinedbdamaa.L
open Go.RowKit Go.Proofs.YtpdgiinedbdamaaW.PrintWords Go.Proofs.YtpdgiinedbdamaaW.PrintLast Go.Proofs.YtpdgiinedbdamaaW.PrintMore
attribute [local go_sem] max2_int min2_int max_two min_two max_three min_three max_four min_four
set_option linter.unusedVariables false
set_option linter.unusedSimpArgs false
def impl_cycles_int.Fvb (P : Program) (g : Nat) (bd lb : Array Value) (x r : Value) (w : World) : Prop :=
 ∀ W, Below w.heap.size w W → Calls P g (bd.push x ++ lb) W fun e w' => e = .returned r ∧ Below W.heap.size W w'
theorem impl_cycles_int.Fvb.calls {P : Program} {g : Nat} {bd lb : Array Value} {x r : Value} {w W : World} (h : impl_cycles_int.Fvb P g bd lb x r w) (hb : Below w.heap.size w W) :
  Calls P g (bd.push x ++ lb) W fun e w' => e = .returned r ∧ Below W.heap.size W w' := h W hb
theorem impl_cycles_int.bool_inv {H : Type} {P : Program} {e : TypeId} (he : P.underlying e = some .bool) {v : Value} {z : DataW H × List MemPlace} (h : plainElem P e v = some z) : ∃ c, v = .bool c ∧ z = (.lit (.bool c), []) := by
 unfold plainElem at h
 rw [he] at h
 cases v <;> simp at h
 exact ⟨_, rfl, h.symm⟩
theorem impl_cycles_int.look {H : Type} {P : Program} (w : World) {ops : Array Oper} {rest : List Oper} {o : Oper} {a : Act} {Q : Exit → Act → World → Prop}
  (hg : o.guard = none) (m x : Operand) (t : TypeId) (hop : o.op = Op.lookup t m x false)
  (k e : TypeId) (K : Go.Maps.Keyed P k) (ht : P.underlying t = some (.map k e)) (he : P.underlying e = some .bool) (hz : (zeroValue e).run P w = .ok (.bool false) w) (b n : Nat) (D : DataW H)
  (hm : a.eval m = .map (some b)) (hown : w.ownsMap P k (plainElem P e) b n D) (key : Value) (kl : Lit) (hx : a.eval x = key) (hkey : keyOf P k key = some kl) (r : Bool) (hr : D.atKey kl (.lit (.bool false)) = .lit (.bool r))
  (hK : wpList P ops Q rest (a.put o.dst (.bool r)) w) :
  wpList P ops Q (o :: rest) a w := by
 refine wpList_plain hg fun K' hK' => ?_
 obtain ⟨v, ps, hrun, hv⟩ := hown.lookup K ht hz (plainElem_bool he false) hkey
 obtain ⟨c, rfl, hc⟩ := impl_cycles_int.bool_inv he hv
 simp only [Prod.mk.injEq] at hc
 rw [hr] at hc
 have hcr : r = c := by have := hc.1; injection this with this; injection this
 subst hcr
 unfold Oper.wp
 simp [execOp, hop, hm, hx, hrun, Result.andThen]
 exact hK' _ _ hK
def impl_cycles_int.own : Nat → (Int → Option Int) → List Int → List Int → Int → Option (List Int × List Int)
 | 0, _, _, _, _ => none
 | k + 1, m, met, own, x => if (Lit.int .i64 x).wf = true then (if met.contains x = true then some (met, own) else if met.length < 17592186044416 then (if own.length < 17592186044416 then (m x).bind fun y => impl_cycles_int.own k m (met ++ [x]) (own ++ [x]) y else none) else none) else none
def impl_cycles_int.go (k : Nat) (m : Int → Option Int) : List Int → List Int → List (List Int) → Option (List (List Int))
 | [], _, out => some out
 | x :: l, met, out => if (Lit.int .i64 x).wf = true then (if met.contains x = true then impl_cycles_int.go k m l met out else (impl_cycles_int.own k m met [] x).bind fun r => if out.length < 5864062014805 then impl_cycles_int.go k m l r.1 (out ++ [r.2]) else none) else none
def impl_cycles_int.f (k : Nat) (m : Int → Option Int) (l0 : List Int) : Option (List (List Int)) := impl_cycles_int.go k m l0 [] []
theorem impl_cycles_int.own_mono {m m' : Int → Option Int} (hm : ∀ x, LeO (m x) (m' x)) : ∀ k met own x, LeO (impl_cycles_int.own k m met own x) (impl_cycles_int.own (k + 1) m' met own x)
 | 0, _, _, _ => fun r h => by cases h
 | k + 1, met, own, x => by
  rw [impl_cycles_int.own, impl_cycles_int.own]
  exact LeO.ite (LeO.ite (LeO.refl _) (LeO.ite (LeO.ite (LeO.bind (hm _) fun y => impl_cycles_int.own_mono hm k _ _ _) (LeO.refl _)) (LeO.refl _))) (LeO.refl _)
theorem impl_cycles_int.go_mono {m m' : Int → Option Int} (hm : ∀ x, LeO (m x) (m' x)) (k : Nat) : ∀ l met out, LeO (impl_cycles_int.go k m l met out) (impl_cycles_int.go (k + 1) m' l met out)
 | [], met, out => LeO.refl _
 | x :: l, met, out => by
  rw [impl_cycles_int.go, impl_cycles_int.go]
  exact LeO.ite (LeO.ite (impl_cycles_int.go_mono hm k l _ _) (LeO.bind (impl_cycles_int.own_mono hm k _ _ _) fun r => LeO.ite (impl_cycles_int.go_mono hm k l _ _) (LeO.refl _))) (LeO.refl _)
theorem impl_cycles_int.mono {m m' : Int → Option Int} (hm : ∀ x, LeO (m x) (m' x)) (k : Nat) (l : List Int) : LeO (impl_cycles_int.f k m l) (impl_cycles_int.f (k + 1) m' l) := impl_cycles_int.go_mono hm k l _ _
theorem impl_cycles_int.zeroE (w : World) : (zeroValue 4).run Try.prog w = .ok (.bool false) w := by kernel_rfl
theorem impl_cycles_int.law : Go.Maps.Keyed Try.prog 3 := Go.Maps.int_keyed Try.underlying3
theorem impl_cycles_int.put_at {D : DataW Unit} {met : List Int} {x : Int} (hD : Go.Maps.IsMap D) (h : ∀ y, D.atKey (.int .i64 y) (.lit (.bool false)) = .lit (.bool (met.contains y))) (y : Int) :
  (D.put (.int .i64 x) (.lit (.bool true))).atKey (.int .i64 y) (.lit (.bool false)) = .lit (.bool ((met ++ [x]).contains y)) := by
 by_cases e : y = x
 ·
  subst e
  rw [Go.Maps.atKey_put_same hD (show WideAt.IsKeyLit (.int .i64 y) from trivial)]
  simp
 ·
  rw [Go.Maps.atKey_put_other (fun he => e (by injection he)), h y]
  simp [e]
open Go.Proofs.Ytpdgiinedbdamaa.X in
set_option maxHeartbeats 1600000 in
set_option maxRecDepth 100000 in
theorem impl_cycles_int.calls (k : Nat) (A0 : Option Addr) (c0 : Nat) (l0 : List Int) (gF : Nat) (bdF lbF : Array Value) (m : Int → Option Int) (r : List (List Int)) (w : World) (eg : ∀ args w, (callFunc gF args).run Try.prog w = .ok (.enter gF args) w)
  (hr0 : Kd.C (Kd.int .i64) w A0 l0.length l0) (hl : l0.length ≤ 9223372036854775806) (hp : ∀ x y, m x = some y → impl_cycles_int.Fvb Try.prog gF bdF lbF (.int .i64 x) (.int .i64 y) w) (h : impl_cycles_int.f k m l0 = some r) :
  Calls Try.prog 95 #[.slice A0 l0.length c0, .func (.func gF) bdF lbF] w fun e w' => ∃ v0_ : Value, e = .returned v0_ ∧ Kd.S (Kd.slice 3 (Kd.int .i64)) 22 w' w.heap.size (fun _ => True) v0_ r ∧ Below w.heap.size w w' := by
 have HR := Aside0.mk hr0
 have HL := Aside0.mk hl
 have HP := Aside0.mk hp
 have HF := Aside0.mk h
 have HB := Aside0.mk (Below.refl w.heap.size w)
 clear hr0 hl hp h
 have hmm := @run_makeMap Try.prog
 go_enter Try.func95, Try.ntmps95
 go_wp2_with (first | ((with_reducible refine gate_dst (N := 11) rfl ?_); refine Kd.S_lit (Kd.slice 3 (Kd.int .i64)) _ 22 ?hg (N := 11) ?hd (xs := ([] : List (List Int))) (inner := []) (ok := fun _ => True) (okp := fun _ => True) ?hr ?hp (fun _ hk => hk) trivial (Below.refl _ _) (Nat.le_refl _) (by simp) ?_; (case hd => rfl); (case hg => rfl); (case hr => first | (go_simp; done) | (go_simp; rfl)); (case hp => exact (Reps.none _ _)); intro v11 w2 ho hb hg_ hnew_; have HO := Aside0.mk ho; have B2 := Aside0.mk hb; clear ho hb hg_ hnew_))
 obtain ⟨W0, hW0⟩ : ∃ W0, W0 = w2.alloc (.map #[] 0) := ⟨_, rfl⟩
 rw [← hW0]
 have M0 := Aside0.mk (show W0.ownsMap (H := Unit) Try.prog 3 (plainElem Try.prog 4) w2.heap.size 0 (.map []) by rw [hW0]; exact World.ownsMap_made _ _ _ _)
 have R0 := Aside0.mk (show Kd.S (Kd.slice 3 (Kd.int .i64)) 22 W0 w.heap.size (fun k => k ≠ w2.heap.size) v11 [] by rw [hW0]; exact Kd.S_alloc (Kd.S_mono (Kd.S_bound HO.out) (fun k hk => by have := hk.2.2.1; omega)) _)
 have B3 := Aside0.mk (show Below w.heap.size w W0 by rw [hW0]; exact below_alloc B2.out _)
 have GB := Aside0.mk (show w.heap.size ≤ w2.heap.size from B2.out.size)
 generalize w2.heap.size = b at M0 R0 GB ⊢
 clear hW0 HO B2 hmm
 go_loopw [5, 15] (fun v5 v15 wr => ∃ (q : Nat) (met : List Int) (out : List (List Int)) (D : DataW Unit), v15 = .int .i64 q ∧ q ≤ l0.length ∧ Aside0 (impl_cycles_int.go k m (l0.drop q) met out = some r) ∧ Aside0 (wr.ownsMap Try.prog 3 (plainElem Try.prog 4) b met.length D) ∧ Aside0 (∀ y, D.atKey (.int .i64 y) (.lit (.bool false)) = .lit (.bool (met.contains y))) ∧ Aside0 (Kd.S (Kd.slice 3 (Kd.int .i64)) 22 wr w.heap.size (fun k => k ≠ b) v5 out) ∧ Aside0 (Below w.heap.size w wr)) (fun _ v15 _ => l0.length - (intOf v15).toNat)
 case atStart => exact ⟨0, [], [], _, rfl, Nat.zero_le _, ⟨by rw [List.drop_zero]; exact HF.out⟩, M0, ⟨fun y => rfl⟩, R0, B3⟩
 case round =>
  obtain ⟨q, met, out, D, rfl, hq, HG, HM, HD, HO, HB⟩ := hrel
  by_cases hlt : q < l0.length
  ·
   have hG := HG.out
   rw [List.drop_eq_getElem_cons hlt, impl_cycles_int.go] at hG
   split at hG
   ·
    rename_i hwf
    have WF := Aside0.mk hwf
    obtain ⟨ad, e1, hx0⟩ := Kd.at_int (Kd.C_below HR.out HB.out) (q : Int) (by omega) (by omega)
    rw [Int.toNat_natCast] at hx0
    cases e1
    have hx : wr.cell? (ad.add q) = some (.int .i64 l0[q]) := by rw [hx0, show rd l0 (q : Int) = l0[q] by simp [rd, List.getD_eq_getElem?_getD, hlt]]
    have e2 : wrap64 ((q : Int) + 1) = ((q + 1 : Nat) : Int) := by have := HL.out; unfold wrap64; omega
    obtain ⟨x, hxe⟩ : ∃ x, x = l0[q] := ⟨_, rfl⟩
    rw [← hxe] at hx hG WF
    clear hxe hwf hx0
    have p1 : 0 ≤ ((q : Nat) : Int) := by omega
    have q1 : ((q : Nat) : Int) < (l0.length : Int) := by omega
    by_cases hc : met.contains x = true
    ·
     rw [if_pos hc] at hG
     have HC := Aside0.mk hc
     have HG2 := Aside0.mk hG
     clear hc hG HG
     go_wp2_with (first | (at_lookup; refine impl_cycles_int.look _ rfl _ _ 92 rfl 3 4 impl_cycles_int.law Try.underlying92 Try.underlying4 (impl_cycles_int.zeroE _) b met.length D rfl HM.out _ (.int .i64 x) rfl (Go.Maps.keyOf_int_mk Try.underlying3 WF.out) true (by rw [HD.out, HC.out]) ?_))
     go_roundw
     case rel => exact ⟨q + 1, met, out, D, by first | rfl | go_num, by omega, HG2, HM, HD, HO, HB⟩
     case measure => (try simp only [e2]); exact (Nat.sub_lt_sub_left (by omega) (Nat.lt_succ_self q) : l0.length - (q + 1) < l0.length - q)
    ·
     rw [if_neg hc] at hG
     obtain ⟨rr, hrr, hG⟩ := Option.bind_eq_some_iff.mp hG
     split at hG
     ·
      rename_i hol
      have HOL := Aside0.mk hol
      have HC := Aside0.mk (show met.contains x = false by simpa using hc)
      have HG2 := Aside0.mk hG
      have HRR := Aside0.mk hrr
      have F5 := Aside0.mk (show ∀ k_, wr.heap.size ≤ k_ → k_ ≠ b ∧ some k_ ≠ (u5 : Value).ownBlock from fun k_ hk => ⟨by have := HM.out.lt; omega, fun e => by have := Kd.S_lt HO.out k_ e.symm; omega⟩)
      clear hol hc hG hrr HG
      go_wp2_with (first | (at_lookup; refine impl_cycles_int.look _ rfl _ _ 92 rfl 3 4 impl_cycles_int.law Try.underlying92 Try.underlying4 (impl_cycles_int.zeroE _) b met.length D rfl HM.out _ (.int .i64 x) rfl (Go.Maps.keyOf_int_mk Try.underlying3 WF.out) false (by rw [HD.out, HC.out]) ?_) | ((with_reducible refine gate_dst (N := 22) rfl ?_); refine Kd.R_lit (Kd.int .i64) w.heap.size 3 ?hg (N := 22) ?hd (xs := ([] : List Int)) (inner := []) (ok := fun k_ => k_ ≠ b ∧ some k_ ≠ (u5 : Value).ownBlock) (okp := fun k_ => k_ ≠ b ∧ some k_ ≠ (u5 : Value).ownBlock) ?hr ?hp (fun _ hk => hk) (F5.out _ (Nat.le_refl _)) HB.out HB.out.size (by simp) ?_; (case hd => rfl); (case hg => rfl); (case hr => first | (go_simp; done) | (go_simp; rfl)); (case hp => exact (Reps.none _ _)); intro v22 w4 ho hb hg hnew; have HW := Aside0.mk ho; have B4 := Aside0.mk hb; have HM4 := Aside0.mk (HM.out.kept hg (by simp)); have HO4 := Aside0.mk (show Kd.S (Kd.slice 3 (Kd.int .i64)) 22 w4 w.heap.size (fun k_ => k_ ≠ b ∧ some k_ ≠ (v22 : Value).ownBlock) u5 out from Kd.S_grown (Kd.S_mono (Kd.S_bound HO.out) (fun k_ hk => ⟨hk.1, fun e => by obtain ⟨b', h1, h2⟩ := hnew; rw [h1] at e; injection e with e; have := hk.2.2.1; omega⟩)) hg (fun _ _ => by simp)); clear ho hb hg hnew HM HO))
      have LO := Aside0.mk (fun (k_ : Nat) (e : (u5 : Value).ownBlock = some k_) => Kd.S_lt HO4.out k_ e)
      have BL := Aside0.mk HM4.out.lt
      have SZ4 := Aside0.mk (Nat.le_refl w4.heap.size)
      go_loopg [9, 10] k (fun kq v9 v10 wi => ∃ (met1 own : List Int) (y : Int) (D1 : DataW Unit), v10 = .int .i64 y ∧ Aside0 (impl_cycles_int.own kq m met1 own y = some rr) ∧ Aside0 (kq ≤ k) ∧ Aside0 (wi.ownsMap Try.prog 3 (plainElem Try.prog 4) b met1.length D1) ∧ Aside0 (∀ y, D1.atKey (.int .i64 y) (.lit (.bool false)) = .lit (.bool (met1.contains y))) ∧ Aside0 (Kd.S (Kd.slice 3 (Kd.int .i64)) 22 wi w.heap.size (fun k_ => k_ ≠ b ∧ some k_ ≠ (v9 : Value).ownBlock) u5 out) ∧ Aside0 (Kd.R (Kd.int .i64) 3 wi w.heap.size (fun k_ => k_ ≠ b ∧ some k_ ≠ (u5 : Value).ownBlock) v9 own) ∧ Aside0 (w4.heap.size ≤ wi.heap.size) ∧ Aside0 (Below w.heap.size w wi))
      case atStart => exact ⟨met, [], x, D, rfl, HRR, ⟨Nat.le_refl _⟩, HM4, HD, HO4, HW, SZ4, B4⟩
      case round =>
       clear HM4 HD HO4 HW SZ4 B4
       obtain ⟨met1, own, y, D1, rfl, HA, HK1, HM, HD, HO, HW, SZ, HB⟩ := hrel
       cases gk with
       | zero => exact absurd HA.out (by simp [impl_cycles_int.own])
       | succ k1 =>
        have hA := HA.out
        rw [impl_cycles_int.own] at hA
        split at hA
        ·
         rename_i hwf
         have WF2 := Aside0.mk hwf
         clear hwf HA
         by_cases hc : met1.contains y = true
         ·
          rw [if_pos hc] at hA
          have hrr := Option.some.inj hA
          subst hrr
          have HC2 := Aside0.mk hc
          clear hA hc
          obtain ⟨Ao, co, eo⟩ := Kd.R_slice HW.out
          subst eo
          go_wp2_with (first | (at_lookup; refine impl_cycles_int.look _ rfl _ _ 92 rfl 3 4 impl_cycles_int.law Try.underlying92 Try.underlying4 (impl_cycles_int.zeroE _) b met1.length D1 rfl HM.out _ (.int .i64 y) rfl (Go.Maps.keyOf_int_mk Try.underlying3 WF2.out) true (by rw [HD.out, HC2.out]) ?_) | ((with_reducible refine gate_builtin (b := .append) (xs := #[.tmp 37, .tmp 39]) rfl ?_); at_builtin; refine Kd.S_append (Kd.slice 3 (Kd.int .i64)) (w0 := w) w.heap.size rfl (.tmp 37) (.tmp 39) 32 22 (.slice none 0 0) 24 rfl Try.underlying32 info22 rfl (by decide) (by omega) u5 out own _ (fun k_ => k_ ≠ b) (fun k_ => some k_ = (Value.slice Ao own.length co).ownBlock) rfl rfl ?aP (fun k_ hk => HW.out.1 k_ hk.symm) ?aF ?aO ?aB ?aS ?aL ?_; (case aP => exact Kd.M_row (Kd.R_tight rfl HW.out)); (case aF => exact fun k_ hk => by have := HM.out.lt; omega); (case aO => exact HO.out); (case aB => exact HB.out); (case aS => exact HB.out.size); (case aL => have := HOL.out; omega); intro v40 w8 ho hb hg hat; have HO8 := Aside0.mk ho; have B8 := Aside0.mk hb; have HM8 := Aside0.mk (HM.out.kept hg (Kd.S_away HO.out (fun _ hk => hk.1))); clear ho hb hg hat))
          go_roundw
          case rel => exact ⟨q + 1, met1, out ++ [own], D1, by first | rfl | go_num, by omega, HG2, HM8, HD, HO8, B8⟩
          case measure => (try simp only [e2]); exact (Nat.sub_lt_sub_left (by omega) (Nat.lt_succ_self q) : l0.length - (q + 1) < l0.length - q)
         ·
          rw [if_neg hc] at hA
          split at hA
          ·
           rename_i hml
           split at hA
           ·
            rename_i hol2
            obtain ⟨z, hz, hA⟩ := Option.bind_eq_some_iff.mp hA
            have HC2 := Aside0.mk (show met1.contains y = false by simpa using hc)
            have HA2 := Aside0.mk hA
            have HZ := Aside0.mk (HP.out y z hz)
            have HML := Aside0.mk hml
            have HOL2 := Aside0.mk hol2
            clear hc hA hz hml hol2
            go_wp2_with (first | (at_lookup; refine impl_cycles_int.look _ rfl _ _ 92 rfl 3 4 impl_cycles_int.law Try.underlying92 Try.underlying4 (impl_cycles_int.zeroE _) b met1.length D1 rfl HM.out _ (.int .i64 y) rfl (Go.Maps.keyOf_int_mk Try.underlying3 WF2.out) false (by rw [HD.out, HC2.out]) ?_) | (at_mapUpdate; refine wpList_mapUpdate_own _ rfl _ _ _ 92 rfl 3 4 impl_cycles_int.law Try.underlying92 (plainElem Try.prog 4) b met1.length D1 rfl HM.out (by have := HML.out; unfold maxLen; omega) _ _ (.int .i64 y) rfl rfl (Go.Maps.keyOf_int_mk Try.underlying3 WF2.out) (.lit (.bool true)) [] (plainElem_bool Try.underlying4 true) ?_; intro w5 hm5 hg5; have HM5 := Aside0.mk hm5; have HO5 := Aside0.mk (Kd.S_grown HO.out hg5 (fun k_ hk => by intro e; injection e with e; exact hk.1 e)); have HW5 := Aside0.mk (Kd.R_grown HW.out hg5 (fun k_ hk => by intro e; injection e with e; exact hk.1 e)); have B5 := Aside0.mk (pw_below_grown HB.out (some b) HB.out.size hg5 (fun k_ e => by injection e with e; rw [← e]; exact GB.out)); have SZ5 := Aside0.mk (Nat.le_trans SZ.out hg5.size); clear hm5 hg5) | ((with_reducible refine gate_builtin (b := .append) (xs := #[.tmp 33, .tmp 35]) rfl ?_); at_builtin; refine Kd.R_append (Kd.int .i64) (w0 := w) w.heap.size rfl (.tmp 33) (.tmp 35) 22 3 (.int .i64 0) 8 rfl Try.underlying22 info3 rfl (by decide) (by omega) u9 own y [.int .i64 y] (fun k_ => k_ ≠ b ∧ some k_ ≠ (u5 : Value).ownBlock) (fun _ => False) rfl rfl ?aP (fun _ hk => hk.elim) ?aF ?aO ?aB ?aS ?aL ?_; (case aP => exact rfl); (case aF => exact fun k_ hk => ⟨by have := BL.out; have := SZ5.out; omega, fun e => by have := LO.out k_ e.symm; have := SZ5.out; omega⟩); (case aO => exact HW5.out); (case aB => exact B5.out); (case aS => exact B5.out.size); (case aL => have := HOL2.out; omega); intro v36 w6 ho hb hg hat; have HW6 := Aside0.mk ho; have B6 := Aside0.mk hb; have HM6 := Aside0.mk (HM5.out.kept hg (fun e => (HW5.out.1 b e.symm).1 rfl)); have HO6 := Aside0.mk (Kd.S_after (v := u9) (v1 := v36) (ok := fun k_ => k_ ≠ b) HO5.out hg hat); have SZ6 := Aside0.mk (Nat.le_trans SZ5.out hg.size); clear ho hb hg hat) | (go_at_fn gF; (with_reducible refine (impl_cycles_int.Fvb.calls HZ.out B6.out).mono ?_); rintro e w7 ⟨rfl, hb⟩; have B7 := Aside0.mk (below_to B6.out hb); have HW7 := Aside0.mk (Kd.R_below HW6.out hb); have HO7 := Aside0.mk (Kd.S_below HO6.out hb); have HM7 := Aside0.mk (HM6.out.kept (grown_of_below hb none) (by simp)); have SZ7 := Aside0.mk (Nat.le_trans SZ6.out hb.size); clear hb))
            go_roundg k1
            case measure => have := HK1.out; omega
            case rel => exact ⟨met1 ++ [y], own ++ [y], z, _, rfl, HA2, ⟨by have := HK1.out; omega⟩, ⟨by rw [List.length_append]; exact HM7.out⟩, ⟨impl_cycles_int.put_at HM.out.isMap HD.out⟩, HO7, HW7, SZ7, B7⟩
           ·
            cases hA
          ·
           cases hA
        ·
         cases hA
     ·
      cases hG
   ·
    cases hG
  ·
   have e1 : r = out := by
    have := HG.out
    rw [List.drop_of_length_le (by omega), impl_cycles_int.go] at this
    exact (Option.some.inj this).symm
   subst e1
   go_wp2
   go_ret
   exact ⟨_, rfl, Kd.S_mono HO.out (fun _ _ => trivial), HB.out⟩
end Go.Proofs.Ytpdgiinedbdamaa.L
end
section
namespace Go.Proofs.Ytpdgiinedbdamaa.L
open Go.RowKit Go.Proofs.YtpdgiinedbdamaaW.PrintWords Go.Proofs.YtpdgiinedbdamaaW.PrintLast Go.Proofs.YtpdgiinedbdamaaW.PrintMore
attribute [local go_sem] max2_int min2_int max_two min_two max_three min_three max_four min_four
set_option linter.unusedVariables false
set_option linter.unusedSimpArgs false
def impl_Poset_bottom.l0 : Nat → Int → Int → List Int → Int → Int → List Int → Option (Int)
 | 0, _, _, _, _, _, _ => none
 | k + 1, x1, x5, x9, x10, x11, x1057000 => if x11 < x10 then (if 0 ≤ x11 then (if x11 < (x9.length : Int) then (if 0 ≤ (rd x9 x11) then (if (rd x9 x11) < (x1057000.length : Int) then (if (Go.bits .and .i64 (rd x1057000 (rd x9 x11)) x1) = 0 then (impl_Poset_bottom.l0 k x1 (Go.bits .or .i64 x5 (shl .i64 1 (rd x9 x11))) x9 x10 (wrap64 (x11 + 1)) x1057000) else (impl_Poset_bottom.l0 k x1 x5 x9 x10 (wrap64 (x11 + 1)) x1057000)) else (none)) else (none)) else (none)) else (none)) else (some x5)
def impl_Poset_bottom.f (k : Nat) (l0_0 : List Int) (a1 : Int) : Option (Int) := (impl_items.f k a1).bind fun t1057 => (impl_Poset_bottom.l0 k a1 0 t1057 (t1057.length : Int) 0 l0_0)
theorem impl_Poset_bottom.mono_l : ∀ k, (∀ y0 y1 y2 y3 y4 y5, LeO (impl_Poset_bottom.l0 k y0 y1 y2 y3 y4 y5) (impl_Poset_bottom.l0 (k + 1) y0 y1 y2 y3 y4 y5))
 | 0 => fun _ _ _ _ _ _ r h => by simp [impl_Poset_bottom.l0] at h
 | k + 1 => by
  have ih0 := impl_Poset_bottom.mono_l k
  ·
   intro y0 y1 y2 y3 y4 y5
   unfold impl_Poset_bottom.l0
   repeat' first
   | (with_reducible exact ih0 _ _ _ _ _ _)
   | (with_reducible exact impl_items.mono _ _)
   | (with_reducible exact LeO.refl _)
   | (with_reducible exact LeO.none _)
   | (with_reducible refine LeO.ite ?_ ?_)
   | (with_reducible refine LeO.bind ?_ (fun _ => ?_))
   | exact ih0 _ _ _ _ _ _
   | exact impl_items.mono _ _
   | exact LeO.none _
   | refine LeO.ite ?_ ?_
   | refine LeO.bind ?_ (fun _ => ?_)
theorem impl_Poset_bottom.mono : ∀ a0 a1 k, LeO (impl_Poset_bottom.f k a0 a1) (impl_Poset_bottom.f (k + 1) a0 a1) := by
 intro a0 a1 k
 have ih0 := impl_Poset_bottom.mono_l k
 unfold impl_Poset_bottom.f
 repeat' first
   | (with_reducible exact ih0 _ _ _ _ _ _)
   | (with_reducible exact impl_items.mono _ _)
   | (with_reducible exact LeO.refl _)
   | (with_reducible exact LeO.none _)
   | (with_reducible refine LeO.ite ?_ ?_)
   | (with_reducible refine LeO.bind ?_ (fun _ => ?_))
   | exact ih0 _ _ _ _ _ _
   | exact impl_items.mono _ _
   | exact LeO.none _
   | refine LeO.ite ?_ ?_
   | refine LeO.bind ?_ (fun _ => ?_)
set_option maxHeartbeats 8000000 in
set_option maxRecDepth 100000 in
theorem impl_Poset_bottom.calls (k : Nat) (A0_0 : Option Addr) (c0_0 : Nat) (l0_0 : List Int) (a1 : Int) (r : Int) (w : World) (hr0_0 : Kd.C (Kd.int .i64) w A0_0 l0_0.length l0_0) (hc0_0 : l0_0.length ≤ c0_0) (h : impl_Poset_bottom.f k l0_0 a1 = some r) :
  Calls Try.prog 160 #[.agg #[.slice A0_0 l0_0.length c0_0], .int .i64 a1] w fun e w' => e = .returned (.int .i64 r) ∧ Below w.heap.size w w' := by
 have hu28 := Try.underlying28
 have HR0_0 := Aside0.mk hr0_0
 have HC0_0 := Aside0.mk hc0_0
 clear hr0_0 hc0_0
 have HB := Aside0.mk (Below.refl w.heap.size w)
 have H : ((impl_items.f k a1).bind fun t1057 => (impl_Poset_bottom.l0 k a1 0 t1057 (t1057.length : Int) 0 l0_0)) = some r := h
 clear h
 replace H := Option.bind_eq_some_iff.mp H
 obtain ⟨t1057, A30, H⟩ := H
 replace H : (impl_Poset_bottom.l0 k a1 0 t1057 (t1057.length : Int) 0 l0_0) = some r := H
 have A3 := Aside0.mk A30
 clear A30
 have H' := Aside0.mk H
 clear H
 go_enter Try.func160, Try.ntmps160
 go_wp2_with (first | ((with_reducible refine gate_dst (N := 2) rfl ?_); refine box_event ?hg (N := 2) ?hd (cs := #[.slice A0_0 l0_0.length c0_0]) (t := 28) ?hr ?_; (case hd => rfl); (case hg => rfl); (case hr => first | (go_simp; done) | (go_simp; rfl)); intro gb1056 hg w4 hbox hb; have n0_ := Aside0.mk (below_step (by repeat (first | (with_reducible first | exact HB.out | apply below_alloc | apply pw_below_drewN | apply below_drew1) | exact HB.out)) hb); have n1_ := Aside0.mk (hbox); have n2_ := Aside0.mk ((by rw [hg]; exact (below_size (by repeat (first | (with_reducible first | exact HB.out | apply below_alloc | apply pw_below_drewN | apply below_drew1) | exact HB.out))) : w.heap.size ≤ gb1056)); have n3_ := Aside0.mk ((by rw [hg]; exact (below_size (by repeat (first | (with_reducible first | exact HB.out | apply below_alloc | apply pw_below_drewN | apply below_drew1) | exact HB.out))) : w.heap.size ≤ gb1056)); clear HB; have HB := n0_; have BK1056 := n1_; have GW1056 := n2_; have GE1056 := n3_; clear n0_ n1_ n2_ n3_; clear hb hbox hg) | ((with_reducible refine gate_callee (f := 106) rfl ?_); refine goesL_ (some 9) rfl rfl Try.func106 (by kernel_rfl) rfl #[.int .i64 a1] rfl (by (try simp only [List.map_toArray, List.map_cons, List.map_nil]); first | done | rfl | (simp only [List.length_drop, List.length_take]; rfl)) ?_; (with_reducible refine (impl_items.calls k a1 t1057 _ A3.out).mono ?_); rintro e w5 ⟨v1058, rfl, ho0, hb⟩; refine ⟨_, rfl, ?_⟩; have n0_ := Aside0.mk (Kd.R_lower ho0 (below_size (by repeat (first | (with_reducible first | exact HB.out | apply below_alloc | apply pw_below_drewN | apply below_drew1 | refine below_set ?_ GE1056.out) | exact HB.out)))); have n1_ := Aside0.mk (blk_below (g := gb1056) (o := .cells #[.slice A0_0 l0_0.length c0_0] 28 (0, 0)) (by (with_reducible repeat (first | refine blk_drewN ?_ _ | refine blk_drew ?_ | refine blk_alloc ?_ _)); exact BK1056.out) hb); have n2_ := Aside0.mk (below_step (by repeat (first | (with_reducible first | exact HB.out | apply below_alloc | apply pw_below_drewN | apply below_drew1 | refine below_set ?_ GE1056.out) | exact HB.out)) hb); clear BK1056; clear HB; have HO1059 := n0_; have BK1056 := n1_; have HB := n2_; clear n0_ n1_ n2_; (try clear hb); (try clear hb2); (try clear hk); (try clear hi); (try clear ho0); obtain ⟨Ao6, co6, eo6⟩ := Kd.R_slice HO1059.out; subst eo6))
 go_loopg [5, 11] k (fun kq v5 v11 w' => ∃ (x5_1 : Int) (x11_1 : Int), v5 = .int .i64 x5_1 ∧ v11 = .int .i64 x11_1 ∧ Aside0 (impl_Poset_bottom.l0 kq a1 x5_1 t1057 (t1057.length : Int) x11_1 l0_0 = some r) ∧ Aside0 (kq ≤ k) ∧ Aside0 (Kd.R (Kd.int .i64) 3 w' w.heap.size (fun _ => True) (.slice Ao6 t1057.length co6) t1057) ∧ Aside0 (w'.heap[gb1056]? = some (.cells #[(.slice A0_0 l0_0.length c0_0)] 28 (0, 0))) ∧ Aside0 (Below w.heap.size w w'))
 case atStart => exact ⟨(0), (0), (by first | rfl | (simp; done) | (simp [*]; done)), (by first | rfl | (simp; done) | (simp [*]; done)), H', ⟨Nat.le_refl _⟩, ⟨by (with_reducible repeat (first | apply Kd.R_alloc | apply Kd.R_drewN | apply Kd.R_drew)); exact HO1059.out⟩, ⟨by (with_reducible repeat (first | refine blk_drewN ?_ _ | refine blk_drew ?_ | refine blk_alloc ?_ _)); exact BK1056.out⟩, ⟨by repeat (first | (with_reducible first | exact HB.out | apply below_alloc | apply pw_below_drewN | apply below_drew1 | refine below_set ?_ GE1056.out) | exact HB.out)⟩⟩
 case round =>
  clear H'
  try clear c1
  try clear p2
  obtain ⟨x5_1, x11_1, rfl, rfl, HA, HK1, HO_9, BK1056, HB⟩ := hrel
  cases gk with
  | zero => exact absurd HA.out (by simp [impl_Poset_bottom.l0])
  | succ k1 =>
   have H := HA.out
   clear HA
   simp only [impl_Poset_bottom.l0] at H
   by_cases c7 : x11_1 < (t1057.length : Int)
   ·
    rw [if_pos c7] at H
    have c7b0 : decide (x11_1 < (t1057.length : Int)) = true := decide_eq_true c7
    clear c7
    by_cases c8 : 0 ≤ x11_1
    ·
     rw [if_pos c8] at H
     have c8b0 : decide (0 ≤ x11_1) = true := decide_eq_true c8
     clear c8
     by_cases c9 : x11_1 < (t1057.length : Int)
     ·
      rw [if_pos c9] at H
      have c9b0 : decide (x11_1 < (t1057.length : Int)) = true := decide_eq_true c9
      clear c9
      by_cases c10 : 0 ≤ (rd t1057 x11_1)
      ·
       rw [if_pos c10] at H
       have c10b0 : decide (0 ≤ (rd t1057 x11_1)) = true := decide_eq_true c10
       clear c10
       by_cases c11 : (rd t1057 x11_1) < (l0_0.length : Int)
       ·
        rw [if_pos c11] at H
        have c11b0 : decide ((rd t1057 x11_1) < (l0_0.length : Int)) = true := decide_eq_true c11
        clear c11
        by_cases c12 : (Go.bits .and .i64 (rd l0_0 (rd t1057 x11_1)) a1) = 0
        ·
         rw [if_pos c12] at H
         have c12b0 : ((Go.bits .and .i64 (rd l0_0 (rd t1057 x11_1)) a1) == 0) = true := beq_iff_eq.mpr c12
         have c12b1 : ((Go.bits .and .i64 (rd l0_0 (rd t1057 x11_1)) a1) != 0) = false := bne_eq_false_iff_eq.mpr c12
         clear c12
         have c13b0 := eq_true (of_decide_eq_true (by first | (with_reducible assumption) | assumption) : 0 ≤ (rd t1057 x11_1))
         obtain ⟨ji14, hji14⟩ : ∃ j_ : Int, (shl .i64 1 (rd t1057 x11_1)) = j_ := ⟨_, rfl⟩
         replace H : (impl_Poset_bottom.l0 k1 a1 (Go.bits .or .i64 x5_1 (ji14)) t1057 (t1057.length : Int) (wrap64 (x11_1 + 1)) l0_0) = some r := by first | (rw [hji14] at H; exact H) | (simp only [hji14] at H ⊢; exact H)
         have hji14_ : (IntKind.i64.wrap (1 * 2 ^ min (rd t1057 x11_1).toNat 64)) = ji14 := hji14
         have hji14z : (rd t1057 x11_1) ≤ 64 → (IntKind.i64.wrap (1 * 2 ^ (rd t1057 x11_1).toNat)) = ji14 := shl_small hji14
         have hji14u : (IntKind.i64.wrap (2 ^ min (rd t1057 x11_1).toNat 64)) = ji14 := by have h_ := hji14_; rw [Int.one_mul] at h_; exact h_
         have hji14v : (rd t1057 x11_1) ≤ 64 → (IntKind.i64.wrap (2 ^ (rd t1057 x11_1).toNat)) = ji14 := fun hle_ => by have h_ := hji14z hle_; rw [Int.one_mul] at h_; exact h_
         have hji14y : (wrap64 (1 * 2 ^ min (rd t1057 x11_1).toNat 64)) = ji14 := (i64_w _).symm.trans hji14_
         have hji14x : (rd t1057 x11_1) ≤ 64 → (wrap64 (1 * 2 ^ (rd t1057 x11_1).toNat)) = ji14 := fun h_ => (i64_w _).symm.trans (hji14z h_)
         have H' := Aside0.mk H
         clear H
         have p1060 : 0 ≤ (x11_1 : Int) := of_decide_eq_true (by first | (with_reducible assumption) | assumption)
         have q1060 : x11_1 < (t1057.length : Int) := of_decide_eq_true (by first | (with_reducible assumption) | assumption)
         obtain ⟨ad1060, e1060, hx1060_0⟩ := Kd.at_int (Kd.R_reads' HO_9.out).2.2 x11_1 p1060 q1060
         cases e1060
         replace p1060 := eq_true p1060
         replace q1060 := eq_true q1060
         have hcz15_0 : wr.cell? ⟨gb1056, 0, none⟩ = some (.slice A0_0 l0_0.length c0_0) := (blk_cell BK1056.out 0).trans rfl
         have hfz15_0 := blk_frozen BK1056.out 0
         have p1061 : 0 ≤ ((rd t1057 x11_1) : Int) := of_decide_eq_true (by first | (with_reducible assumption) | assumption)
         have q1061 : (rd t1057 x11_1) < (l0_0.length : Int) := of_decide_eq_true (by first | (with_reducible assumption) | assumption)
         obtain ⟨ad1061, e1061, hx1061_0⟩ := Kd.at_int HR0_0.out (rd t1057 x11_1) p1061 q1061
         cases e1061
         replace hx1061_0 := (HB.out.cell (World.block_lt_of_cell? w _ hx1061_0)).trans hx1061_0
         replace p1061 := eq_true p1061
         replace q1061 := eq_true q1061
         go_wp2
         go_roundg k1
         case measure => have := HK1.out; omega
         case rel => exact ⟨(Go.bits .or .i64 x5_1 (ji14)), (wrap64 (x11_1 + 1)), (by first | rfl | (simp; done) | (simp only [← hji14] <;> (first | rfl | simp)) | (simp [*]; done)), (by first | rfl | (simp; done) | (simp [*]; done)), H', ⟨by have := HK1.out; omega⟩, ⟨by (with_reducible repeat (first | apply Kd.R_alloc | apply Kd.R_drewN | apply Kd.R_drew)); exact HO_9.out⟩, ⟨by (with_reducible repeat (first | refine blk_drewN ?_ _ | refine blk_drew ?_ | refine blk_alloc ?_ _)); exact BK1056.out⟩, ⟨by repeat (first | (with_reducible first | exact HB.out | apply below_alloc | apply pw_below_drewN | apply below_drew1 | refine below_set ?_ GE1056.out) | exact HB.out)⟩⟩
        ·
         rw [if_neg c12] at H
         have c12b0 : ((Go.bits .and .i64 (rd l0_0 (rd t1057 x11_1)) a1) == 0) = false := beq_eq_false_iff_ne.mpr c12
         have c12b1 : ((Go.bits .and .i64 (rd l0_0 (rd t1057 x11_1)) a1) != 0) = true := bne_iff_ne.mpr c12
         have H' := Aside0.mk H
         clear H
         have p1060 : 0 ≤ (x11_1 : Int) := of_decide_eq_true (by first | (with_reducible assumption) | assumption)
         have q1060 : x11_1 < (t1057.length : Int) := of_decide_eq_true (by first | (with_reducible assumption) | assumption)
         obtain ⟨ad1060, e1060, hx1060_0⟩ := Kd.at_int (Kd.R_reads' HO_9.out).2.2 x11_1 p1060 q1060
         cases e1060
         replace p1060 := eq_true p1060
         replace q1060 := eq_true q1060
         have hcz16_0 : wr.cell? ⟨gb1056, 0, none⟩ = some (.slice A0_0 l0_0.length c0_0) := (blk_cell BK1056.out 0).trans rfl
         have hfz16_0 := blk_frozen BK1056.out 0
         have p1061 : 0 ≤ ((rd t1057 x11_1) : Int) := of_decide_eq_true (by first | (with_reducible assumption) | assumption)
         have q1061 : (rd t1057 x11_1) < (l0_0.length : Int) := of_decide_eq_true (by first | (with_reducible assumption) | assumption)
         obtain ⟨ad1061, e1061, hx1061_0⟩ := Kd.at_int HR0_0.out (rd t1057 x11_1) p1061 q1061
         cases e1061
         replace hx1061_0 := (HB.out.cell (World.block_lt_of_cell? w _ hx1061_0)).trans hx1061_0
         replace p1061 := eq_true p1061
         replace q1061 := eq_true q1061
         go_wp2
         go_roundg k1
         case measure => have := HK1.out; omega
         case rel => exact ⟨(x5_1), (wrap64 (x11_1 + 1)), (by first | rfl | (simp; done) | (simp [*]; done)), (by first | rfl | (simp; done) | (simp [*]; done)), H', ⟨by have := HK1.out; omega⟩, ⟨by (with_reducible repeat (first | apply Kd.R_alloc | apply Kd.R_drewN | apply Kd.R_drew)); exact HO_9.out⟩, ⟨by (with_reducible repeat (first | refine blk_drewN ?_ _ | refine blk_drew ?_ | refine blk_alloc ?_ _)); exact BK1056.out⟩, ⟨by repeat (first | (with_reducible first | exact HB.out | apply below_alloc | apply pw_below_drewN | apply below_drew1 | refine below_set ?_ GE1056.out) | exact HB.out)⟩⟩
       ·
        rw [if_neg c11] at H
        exact absurd H (by simp)
      ·
       rw [if_neg c10] at H
       exact absurd H (by simp)
     ·
      rw [if_neg c9] at H
      exact absurd H (by simp)
    ·
     rw [if_neg c8] at H
     exact absurd H (by simp)
   ·
    rw [if_neg c7] at H
    have c7b0 : decide (x11_1 < (t1057.length : Int)) = false := decide_eq_false c7
    clear c7
    obtain rfl := Option.some.inj H
    go_wp2
    go_ret
    exact ⟨by first | rfl | (simp [errW_none, errW_some] <;> rfl) | (simp [*, errW_none, errW_some] <;> rfl), by repeat (first | (with_reducible first | exact HB.out | apply below_alloc | apply pw_below_drewN | apply below_drew1 | refine below_set ?_ GE1056.out) | exact HB.out)⟩
end Go.Proofs.Ytpdgiinedbdamaa.L
end
section
namespace Go.Proofs.Ytpdgiinedbdamaa.L
open Go.RowKit Go.Proofs.YtpdgiinedbdamaaW.PrintWords Go.Proofs.YtpdgiinedbdamaaW.PrintLast Go.Proofs.YtpdgiinedbdamaaW.PrintMore
attribute [local go_sem] max2_int min2_int max_two min_two max_three min_three max_four min_four
set_option linter.unusedVariables false
set_option linter.unusedSimpArgs false
def impl_Poset_row.f (k : Nat) (l0_0 : List Int) (a1 : Int) : Option (Int) := (impl_Poset_all.f l0_0).bind fun t1063 => ((impl_Poset_bottom.f k l0_0 (Go.bits .andNot .i64 t1063 a1)).bind fun t1064 => ((impl_Poset_close.f k l0_0 t1064).bind fun t1065 => (some t1065)))
theorem impl_Poset_row.mono : ∀ a0 a1 k, LeO (impl_Poset_row.f k a0 a1) (impl_Poset_row.f (k + 1) a0 a1) := by
 intro a0 a1 k
 unfold impl_Poset_row.f
 repeat' first
   | (with_reducible exact impl_Poset_bottom.mono _ _ _)
   | (with_reducible exact impl_Poset_close.mono _ _ _)
   | (with_reducible exact LeO.refl _)
   | (with_reducible exact LeO.none _)
   | (with_reducible refine LeO.ite ?_ ?_)
   | (with_reducible refine LeO.bind ?_ (fun _ => ?_))
   | exact impl_Poset_bottom.mono _ _ _
   | exact impl_Poset_close.mono _ _ _
   | exact LeO.none _
   | refine LeO.ite ?_ ?_
   | refine LeO.bind ?_ (fun _ => ?_)
def impl_Poset_row.T1 : Bool × List (List Nat × List Nat) := (true, [([], []), ([], []), ([], []), ([2], [2]), ([], []), ([3, 4], [3, 4]), ([1, 5, 3], [1, 5]), ([0, 6, 6], [0, 6]), ([7, 7, 0, 1, 2, 3, 4, 5, 6, 7], [7])])
def impl_Poset_row.B1 : List Nat := [0, 0, 0, 4, 0, 28, 62, 127, 255]
theorem impl_Poset_row.tab1 : rtab .any (opsOf Try.f130 1) = impl_Poset_row.T1 := by kernel_rfl
theorem impl_Poset_row.bits1 : waitsOk impl_Poset_row.T1.2 impl_Poset_row.B1 = true := by kernel_rfl
set_option maxHeartbeats 8000000 in
set_option maxRecDepth 100000 in
theorem impl_Poset_row.calls (k : Nat) (A0_0 : Option Addr) (c0_0 : Nat) (l0_0 : List Int) (a1 : Int) (r : Int) (w : World) (hr0_0 : Kd.C (Kd.int .i64) w A0_0 l0_0.length l0_0) (hc0_0 : l0_0.length ≤ c0_0) (h : impl_Poset_row.f k l0_0 a1 = some r) :
  Calls Try.prog 130 #[.agg #[.slice A0_0 l0_0.length c0_0], .int .i64 a1] w fun e w' => e = .returned (.int .i64 r) ∧ Below w.heap.size w w' := by
 have hu28 := Try.underlying28
 have HR0_0 := Aside0.mk hr0_0
 have HC0_0 := Aside0.mk hc0_0
 clear hr0_0 hc0_0
 have HB := Aside0.mk (Below.refl w.heap.size w)
 have H : ((impl_Poset_all.f l0_0).bind fun t1063 => ((impl_Poset_bottom.f k l0_0 (Go.bits .andNot .i64 t1063 a1)).bind fun t1064 => ((impl_Poset_close.f k l0_0 t1064).bind fun t1065 => (some t1065)))) = some r := h
 clear h
 replace H := Option.bind_eq_some_iff.mp H
 obtain ⟨t1063, A30, H⟩ := H
 replace H : ((impl_Poset_bottom.f k l0_0 (Go.bits .andNot .i64 t1063 a1)).bind fun t1064 => ((impl_Poset_close.f k l0_0 t1064).bind fun t1065 => (some t1065))) = some r := H
 have A3 := Aside0.mk A30
 clear A30
 replace H := Option.bind_eq_some_iff.mp H
 obtain ⟨t1064, A40, H⟩ := H
 replace H : ((impl_Poset_close.f k l0_0 t1064).bind fun t1065 => (some t1065)) = some r := H
 have A4 := Aside0.mk A40
 clear A40
 replace H := Option.bind_eq_some_iff.mp H
 obtain ⟨t1065, A50, H⟩ := H
 replace H : (some t1065) = some r := H
 have A5 := Aside0.mk A50
 clear A50
 obtain rfl := Option.some.inj H
 go_enter Try.func130, Try.ntmps130
 try go_wp2_with (first | ((with_reducible refine gate_dst (N := 2) rfl ?_); refine box_event ?hg (N := 2) ?hd (cs := #[.slice A0_0 l0_0.length c0_0]) (t := 28) ?hr ?_; (case hd => rfl); (case hg => rfl); (case hr => first | (go_simp; done) | (go_simp; rfl)); intro gb1062 hg w6 hbox hb; have n0_ := Aside0.mk (below_step (by repeat (first | (with_reducible first | exact HB.out | apply below_alloc | apply pw_below_drewN | apply below_drew1) | exact HB.out)) hb); have n1_ := Aside0.mk (hbox); have n2_ := Aside0.mk ((by rw [hg]; exact (below_size (by repeat (first | (with_reducible first | exact HB.out | apply below_alloc | apply pw_below_drewN | apply below_drew1) | exact HB.out))) : w.heap.size ≤ gb1062)); have n3_ := Aside0.mk ((by rw [hg]; exact (below_size (by repeat (first | (with_reducible first | exact HB.out | apply below_alloc | apply pw_below_drewN | apply below_drew1) | exact HB.out))) : w.heap.size ≤ gb1062)); clear HB; have HB := n0_; have BK1062 := n1_; have GW1062 := n2_; have GE1062 := n3_; clear n0_ n1_ n2_ n3_; clear hb hbox hg))
 have n0_ := Aside0.mk (blk_drew BK1062.out)
 have n1_ := Aside0.mk (below_drew1 HB.out)
 clear BK1062
 clear HB
 have BK1062 := n0_
 have HB := n1_
 clear n0_ n1_
 refine start_ (n := 9) (S := fun w' => w'.cell? ⟨gb1062, 0, none⟩ = some (.slice A0_0 l0_0.length c0_0)) (ds := []) #[false, false, false, false, false, false, false, false, false] (by kernel_rfl) rfl rfl ((blk_cell BK1062.out 0).trans rfl) (fun hHeld => ?_); refine with_tabW impl_Poset_row.tab1 impl_Poset_row.bits1 (fun HT_ HW_ => ?_)
 generalize w6.drew = w7 at BK1062 HB hHeld ⊢
 refine pure_ (i := 4) (N := some 9) (v := ?_) (a' := ?_) #[false, false, false, false, true, false, false, false, false] rfl rfl (any_of HT_.out (by kernel_rfl)) (fun _ _ _ h => h) (Or.inl ⟨by rfl, ?_⟩) ?_ ?_
 rotate_left
 ·
  intro w'
  go_simp
  with_reducible rfl
 rotate_left
 ·
  simp only [Act.put, List.setIfInBounds_toArray, List.set_cons_zero, List.set_cons_succ, i64_w, i32_w]
  rfl
 refine take_ (i := 0) (N := some 5) (v := ?_) (a' := ?_) #[true, false, false, false, true, false, false, false, false] rfl rfl (take_ofW HT_.out HW_.out (by kernel_rfl)) (fun _ _ _ h => h) (Or.inl ⟨by rfl, ?_⟩) hHeld ?_ ?_
 rotate_left
 ·
  intro w' s0
  go_simp
  with_reducible rfl
 rotate_left
 ·
  simp only [Act.put, List.setIfInBounds_toArray, List.set_cons_zero, List.set_cons_succ, i64_w, i32_w]
  rfl
 refine take_ (i := 1) (N := some 6) (v := ?_) (a' := ?_) #[true, true, false, false, true, false, false, false, false] rfl rfl (take_ofW HT_.out HW_.out (by kernel_rfl)) (fun _ _ _ h => h) (Or.inl ⟨by rfl, ?_⟩) hHeld ?_ ?_
 rotate_left
 ·
  intro w' s0
  go_simp
  with_reducible rfl
 rotate_left
 ·
  simp only [Act.put, List.setIfInBounds_toArray, List.set_cons_zero, List.set_cons_succ, i64_w, i32_w]
  rfl
 refine take_ (i := 2) (N := some 7) (v := ?_) (a' := ?_) #[true, true, true, false, true, false, false, false, false] rfl rfl (take_ofW HT_.out HW_.out (by kernel_rfl)) (fun _ _ _ h => h) (Or.inl ⟨by rfl, ?_⟩) hHeld ?_ ?_
 rotate_left
 ·
  intro w' s0
  go_simp
  with_reducible rfl
 rotate_left
 ·
  simp only [Act.put, List.setIfInBounds_toArray, List.set_cons_zero, List.set_cons_succ, i64_w, i32_w]
  rfl
 refine one_ (i := 3) (N := some 8) #[true, true, true, true, true, false, false, false, false] rfl rfl (one_of HT_.out (by kernel_rfl)) (by decide) (fun K hK => ?_)
 refine goes_ Try.func156 (by kernel_rfl) rfl #[.agg #[.slice A0_0 l0_0.length c0_0]] (by rfl) rfl rfl (by (try simp only [List.map_toArray, List.map_cons, List.map_nil]); first | done | rfl | (simp only [List.length_drop, List.length_take]; rfl)) ?_
 with_reducible refine (impl_Poset_all.calls _ _ l0_0 t1063 _ ?side1 ?side2 A3.out).mono ?_
 (case side1 => repeat (first | exact (Kd.C_below HR0_0.out HB.out) | (with_reducible refine Kd.C_alloc ?_ _) | (with_reducible refine Kd.C_drewN ?_ _) | (with_reducible refine Kd.C_drew ?_)))
 (case side2 => exact HC0_0.out)
 rintro e w8 ⟨rfl, hb⟩
 refine ⟨_, rfl, ?_⟩
 have n0_ := Aside0.mk (blk_below (g := gb1062) (o := .cells #[.slice A0_0 l0_0.length c0_0] 28 (0, 0)) (by (with_reducible repeat (first | refine blk_drewN ?_ _ | refine blk_drew ?_ | refine blk_alloc ?_ _)); exact BK1062.out) hb)
 have n1_ := Aside0.mk (below_step (by repeat (first | (with_reducible first | exact HB.out | apply below_alloc | apply pw_below_drewN | apply below_drew1 | refine below_set ?_ GE1062.out) | exact HB.out)) hb)
 clear BK1062
 clear HB
 have BK1062 := n0_
 have HB := n1_
 clear n0_ n1_
 (try clear hb)
 (try clear hb2)
 (try clear hk)
 (try clear hi)
 refine hK.out _ _ ((blk_cell BK1062.out 0).trans rfl) (fun hHeld => ?_)
 clear hK K
 refine norm_ (a' := ?_) ?_ ?_
 rotate_left
 ·
  show Act.put _ (some 8) _ = _
  simp only [Act.put, List.setIfInBounds_toArray, List.set_cons_zero, List.set_cons_succ, i64_w, i32_w]
  rfl
 refine pure_ (i := 5) (N := some 10) (v := ?_) (a' := ?_) #[true, true, true, true, true, true, false, false, false] rfl rfl (any_of HT_.out (by kernel_rfl)) (fun _ _ _ h => h) (Or.inl ⟨by rfl, ?_⟩) ?_ ?_
 rotate_left
 ·
  intro w'
  go_simp
  with_reducible rfl
 rotate_left
 ·
  simp only [Act.put, List.setIfInBounds_toArray, List.set_cons_zero, List.set_cons_succ, i64_w, i32_w]
  rfl
 refine one_ (i := 6) (N := some 11) #[true, true, true, true, true, true, true, false, false] rfl rfl (one_of HT_.out (by kernel_rfl)) (by decide) (fun K hK => ?_)
 refine goes_ Try.func160 (by kernel_rfl) rfl #[.agg #[.slice A0_0 l0_0.length c0_0], .int .i64 (Go.bits .andNot .i64 t1063 a1)] (by rfl) rfl rfl (by (try simp only [List.map_toArray, List.map_cons, List.map_nil]); first | done | rfl | (simp only [List.length_drop, List.length_take]; rfl)) ?_
 with_reducible refine (impl_Poset_bottom.calls k _ _ l0_0 (Go.bits .andNot .i64 t1063 a1) t1064 _ ?side1 ?side2 A4.out).mono ?_
 (case side1 => repeat (first | exact (Kd.C_below HR0_0.out HB.out) | (with_reducible refine Kd.C_alloc ?_ _) | (with_reducible refine Kd.C_drewN ?_ _) | (with_reducible refine Kd.C_drew ?_)))
 (case side2 => exact HC0_0.out)
 rintro e w9 ⟨rfl, hb⟩
 refine ⟨_, rfl, ?_⟩
 have n0_ := Aside0.mk (blk_below (g := gb1062) (o := .cells #[.slice A0_0 l0_0.length c0_0] 28 (0, 0)) (by (with_reducible repeat (first | refine blk_drewN ?_ _ | refine blk_drew ?_ | refine blk_alloc ?_ _)); exact BK1062.out) hb)
 have n1_ := Aside0.mk (below_step (by repeat (first | (with_reducible first | exact HB.out | apply below_alloc | apply pw_below_drewN | apply below_drew1 | refine below_set ?_ GE1062.out) | exact HB.out)) hb)
 clear BK1062
 clear HB
 have BK1062 := n0_
 have HB := n1_
 clear n0_ n1_
 (try clear hb)
 (try clear hb2)
 (try clear hk)
 (try clear hi)
 refine hK.out _ _ ((blk_cell BK1062.out 0).trans rfl) (fun hHeld => ?_)
 clear hK K
 refine norm_ (a' := ?_) ?_ ?_
 rotate_left
 ·
  show Act.put _ (some 11) _ = _
  simp only [Act.put, List.setIfInBounds_toArray, List.set_cons_zero, List.set_cons_succ, i64_w, i32_w]
  rfl
 refine one_ (i := 7) (N := some 12) #[true, true, true, true, true, true, true, true, false] rfl rfl (one_of HT_.out (by kernel_rfl)) (by decide) (fun K hK => ?_)
 refine goes_ Try.func125 (by kernel_rfl) rfl #[.agg #[.slice A0_0 l0_0.length c0_0], .int .i64 t1064] (by rfl) rfl rfl (by (try simp only [List.map_toArray, List.map_cons, List.map_nil]); first | done | rfl | (simp only [List.length_drop, List.length_take]; rfl)) ?_
 with_reducible refine (impl_Poset_close.calls k _ _ l0_0 t1064 t1065 _ ?side1 ?side2 A5.out).mono ?_
 (case side1 => repeat (first | exact (Kd.C_below HR0_0.out HB.out) | (with_reducible refine Kd.C_alloc ?_ _) | (with_reducible refine Kd.C_drewN ?_ _) | (with_reducible refine Kd.C_drew ?_)))
 (case side2 => exact HC0_0.out)
 rintro e w10 ⟨rfl, hb⟩
 refine ⟨_, rfl, ?_⟩
 have n0_ := Aside0.mk (blk_below (g := gb1062) (o := .cells #[.slice A0_0 l0_0.length c0_0] 28 (0, 0)) (by (with_reducible repeat (first | refine blk_drewN ?_ _ | refine blk_drew ?_ | refine blk_alloc ?_ _)); exact BK1062.out) hb)
 have n1_ := Aside0.mk (below_step (by repeat (first | (with_reducible first | exact HB.out | apply below_alloc | apply pw_below_drewN | apply below_drew1 | refine below_set ?_ GE1062.out) | exact HB.out)) hb)
 clear BK1062
 clear HB
 have BK1062 := n0_
 have HB := n1_
 clear n0_ n1_
 (try clear hb)
 (try clear hb2)
 (try clear hk)
 (try clear hi)
 refine hK.out _ _ ((blk_cell BK1062.out 0).trans rfl) (fun hHeld => ?_)
 clear hK K
 refine norm_ (a' := ?_) ?_ ?_
 rotate_left
 ·
  show Act.put _ (some 12) _ = _
  simp only [Act.put, List.setIfInBounds_toArray, List.set_cons_zero, List.set_cons_succ, i64_w, i32_w]
  rfl
 refine pure_ (i := 8) (N := some 4) (v := ?_) (a' := ?_) #[true, true, true, true, true, true, true, true, true] rfl rfl (any_of HT_.out (by kernel_rfl)) (fun _ _ _ h => h) (Or.inl ⟨by rfl, ?_⟩) ?_ ?_
 rotate_left
 ·
  intro w'
  go_simp
  with_reducible rfl
 rotate_left
 ·
  simp only [Act.put, List.setIfInBounds_toArray, List.set_cons_zero, List.set_cons_succ, i64_w, i32_w]
  rfl
 refine done_ (done_of HT_.out (by kernel_rfl)) ?_
 try go_wp2
 go_ret
 exact ⟨by first | rfl | (simp [errW_none, errW_some] <;> rfl) | (simp [*, errW_none, errW_some] <;> rfl), by repeat (first | (with_reducible first | exact HB.out | apply below_alloc | apply pw_below_drewN | apply below_drew1 | refine below_set ?_ GE1062.out) | exact HB.out)⟩
end Go.Proofs.Ytpdgiinedbdamaa.L
end
section
namespace Go.Proofs.Ytpdgiinedbdamaa.L
open Go.RowKit Go.Proofs.YtpdgiinedbdamaaW.PrintWords Go.Proofs.YtpdgiinedbdamaaW.PrintLast Go.Proofs.YtpdgiinedbdamaaW.PrintMore
attribute [local go_sem] max2_int min2_int max_two min_two max_three min_three max_four min_four
set_option linter.unusedVariables false
set_option linter.unusedSimpArgs false
def impl_Poset_orbits.f (k : Nat) (l0_0 : List Int) : Option (List (List Int)) := (impl_Poset_ideals.f k l0_0).bind fun s => if s.length ≤ 9223372036854775806 then impl_cycles_int.f k (fun x => impl_Poset_row.f k l0_0 x) s else none
theorem impl_Poset_orbits.mono : ∀ a0 k, LeO (impl_Poset_orbits.f k a0) (impl_Poset_orbits.f (k + 1) a0) := fun l0 k => LeO.bind (impl_Poset_ideals.mono _ _) fun s => LeO.ite (impl_cycles_int.mono (fun x => impl_Poset_row.mono _ _ _) k s) (LeO.refl _)
theorem impl_Poset_orbits.lit (k : Nat) (A0 : Option Addr) (c0 : Nat) (l0 : List Int) (x y : Int) (w : World) (hr0 : Kd.C (Kd.int .i64) w A0 l0.length l0) (hc0 : l0.length ≤ c0) (h : impl_Poset_row.f k l0 x = some y) :
  impl_cycles_int.Fvb Try.prog 130 #[.agg #[.slice A0 l0.length c0]] #[] (.int .i64 x) (.int .i64 y) w := by
 intro W hb
 show Calls Try.prog 130 #[.agg #[.slice A0 l0.length c0], .int .i64 x] W _
 exact impl_Poset_row.calls k A0 c0 l0 x y W (Kd.C_below hr0 hb) hc0 h
open Go.Proofs.Ytpdgiinedbdamaa.X in
set_option maxHeartbeats 1600000 in
set_option maxRecDepth 100000 in
theorem impl_Poset_orbits.calls (k : Nat) (A0_0 : Option Addr) (c0_0 : Nat) (l0_0 : List Int) (r : List (List Int)) (w : World) (hr0_0 : Kd.C (Kd.int .i64) w A0_0 l0_0.length l0_0) (hc0_0 : l0_0.length ≤ c0_0) (h : impl_Poset_orbits.f k l0_0 = some r) :
  Calls Try.prog 94 #[.agg #[.slice A0_0 l0_0.length c0_0]] w fun e w' => ∃ v0_ : Value, e = .returned (v0_) ∧ Kd.S (Kd.slice 3 (Kd.int .i64)) 22 w' w.heap.size (fun _ => True) v0_ r ∧ Below w.heap.size w w' := by
 unfold impl_Poset_orbits.f at h
 obtain ⟨s, hs, h⟩ := Option.bind_eq_some_iff.mp h
 split at h
 ·
  rename_i hl
  have HS := Aside0.mk hs
  have HF := Aside0.mk h
  have HL := Aside0.mk hl
  have HR := Aside0.mk hr0_0
  have HC := Aside0.mk hc0_0
  clear h hs hl hr0_0 hc0_0
  have hu := Try.underlying28
  go_enter Try.func94, Try.ntmps94
  go_wp2_with fail
  obtain ⟨W1, hW1⟩ : ∃ W1, W1 = w.alloc (.cells #[.slice A0_0 l0_0.length c0_0] 28) := ⟨_, rfl⟩
  rw [← hW1]
  have B1 := Aside0.mk (show Below w.heap.size w W1 by rw [hW1]; exact below_alloc (Below.refl _ _) _)
  have q1 : W1.cell? ⟨w.heap.size, 0, none⟩ = some (.slice A0_0 l0_0.length c0_0) := by rw [hW1]; simp
  clear hW1
  go_region_held3 (fun w' => w'.cell? ⟨w.heap.size, 0, none⟩ = some (.slice A0_0 l0_0.length c0_0) ∧ Below w.heap.size w w')
   (first | exact ⟨q1, below_drew B1.out⟩ | exact ⟨pw_cell_below hb q1, below_to (below_drew B1.out) hb⟩ | exact ⟨pw_cell_below hb (And.left (by assumption)), below_to (And.right (by assumption)) hb⟩)
   (first
    | (go_at_call 81; refine (impl_Poset_ideals.calls k _ _ l0_0 s _ (by first | exact Kd.C_below HR.out (below_drew B1.out) | exact Kd.C_below HR.out (And.right (by assumption))) HC.out HS.out).mono ?_; rintro e w2 ⟨v1, rfl, hR, hb⟩; obtain ⟨Ao, co, rfl, hl, hC⟩ := Kd.R_reads hR)
    | (go_at_call 95; have B9 := Aside0.mk (show Below w.heap.size w w2 from And.right (by assumption)); refine (impl_cycles_int.calls k Ao co s 130 #[.agg #[.slice A0_0 l0_0.length c0_0]] #[] (fun x => impl_Poset_row.f k l0_0 x) r _ (enters_ Try.func130 (by kernel_rfl) rfl) hC HL.out (fun x y h => impl_Poset_orbits.lit k _ _ l0_0 x y _ (Kd.C_below HR.out (And.right (by assumption))) HC.out h) HF.out).mono ?_; rintro e w3 ⟨v2, rfl, hR2, hb⟩))
  all_goals
   go_wp2
   go_ret
   exact ⟨_, rfl, Kd.S_lower hR2 B9.out.size, And.right (by assumption)⟩
 ·
  cases h
end Go.Proofs.Ytpdgiinedbdamaa.L
end
section
namespace Go.Proofs.Ytpdgiinedbdamaa.L
open Go.RowKit Go.Proofs.YtpdgiinedbdamaaW.PrintWords Go.Proofs.YtpdgiinedbdamaaW.PrintLast Go.Proofs.YtpdgiinedbdamaaW.PrintMore
attribute [local go_sem] max2_int min2_int max_two min_two max_three min_three max_four min_four
set_option linter.unusedVariables false
set_option linter.unusedSimpArgs false
def impl_SortedLengths.f (k : Nat) (l0_0 : List Int) : Option (List Int × Bool) := (impl_IsPoset.f k l0_0).bind fun t1170 => (if t1170 = true then ((impl_Poset_orbits.f k l0_0).bind fun t1171 => ((impl_lengths_int.f k t1171).bind fun t1174 => ((impl_sorted.f t1174).bind fun t1177 => (some (t1177, true))))) else (some (([] : List Int), false)))
theorem impl_SortedLengths.mono : ∀ a0 k, LeO (impl_SortedLengths.f k a0) (impl_SortedLengths.f (k + 1) a0) := by
 intro a0 k
 unfold impl_SortedLengths.f
 repeat' first
   | (with_reducible exact impl_IsPoset.mono _ _)
   | (with_reducible exact impl_Poset_orbits.mono _ _)
   | (with_reducible exact impl_lengths_int.mono _ _)
   | (with_reducible exact LeO.refl _)
   | (with_reducible exact LeO.none _)
   | (with_reducible refine LeO.ite ?_ ?_)
   | (with_reducible refine LeO.bind ?_ (fun _ => ?_))
   | exact impl_IsPoset.mono _ _
   | exact impl_Poset_orbits.mono _ _
   | exact impl_lengths_int.mono _ _
   | exact LeO.none _
   | refine LeO.ite ?_ ?_
   | refine LeO.bind ?_ (fun _ => ?_)
set_option maxHeartbeats 8000000 in
set_option maxRecDepth 100000 in
theorem impl_SortedLengths.calls (k : Nat) (A0_0 : Option Addr) (c0_0 : Nat) (l0_0 : List Int) (r1 : List Int) (r2 : Bool) (w : World) (hr0_0 : Kd.C (Kd.int .i64) w A0_0 l0_0.length l0_0) (hc0_0 : l0_0.length ≤ c0_0) (h : impl_SortedLengths.f k l0_0 = some (r1, r2)) :
  Calls Try.prog 42 #[.agg #[.slice A0_0 l0_0.length c0_0]] w fun e w' => ∃ v0_ : Value, e = .returned (.tuple #[v0_, .bool r2]) ∧ Kd.R (Kd.int .i64) 3 w' w.heap.size (fun _ => True) v0_ r1 ∧ Below w.heap.size w w' := by
 have hu28 := Try.underlying28
 have HR0_0 := Aside0.mk hr0_0
 have HC0_0 := Aside0.mk hc0_0
 clear hr0_0 hc0_0
 have HB := Aside0.mk (Below.refl w.heap.size w)
 have H : ((impl_IsPoset.f k l0_0).bind fun t1170 => (if t1170 = true then ((impl_Poset_orbits.f k l0_0).bind fun t1171 => ((impl_lengths_int.f k t1171).bind fun t1174 => ((impl_sorted.f t1174).bind fun t1177 => (some (t1177, true))))) else (some (([] : List Int), false)))) = some (r1, r2) := h
 clear h
 replace H := Option.bind_eq_some_iff.mp H
 obtain ⟨t1170, A20, H⟩ := H
 replace H : (if t1170 = true then ((impl_Poset_orbits.f k l0_0).bind fun t1171 => ((impl_lengths_int.f k t1171).bind fun t1174 => ((impl_sorted.f t1174).bind fun t1177 => (some (t1177, true))))) else (some (([] : List Int), false))) = some (r1, r2) := H
 have A2 := Aside0.mk A20
 clear A20
 by_cases c3 : t1170 = true
 ·
  subst c3
  have H1 : ((impl_Poset_orbits.f k l0_0).bind fun t1171 => ((impl_lengths_int.f k t1171).bind fun t1174 => ((impl_sorted.f t1174).bind fun t1177 => (some (t1177, true))))) = some (r1, r2) := by rw [if_pos rfl] at H; exact H
  clear H
  have H := H1
  clear H1
  replace H := Option.bind_eq_some_iff.mp H
  obtain ⟨t1171, A40, H⟩ := H
  replace H : ((impl_lengths_int.f k t1171).bind fun t1174 => ((impl_sorted.f t1174).bind fun t1177 => (some (t1177, true)))) = some (r1, r2) := H
  have A4 := Aside0.mk A40
  clear A40
  replace H := Option.bind_eq_some_iff.mp H
  obtain ⟨t1174, A50, H⟩ := H
  replace H : ((impl_sorted.f t1174).bind fun t1177 => (some (t1177, true))) = some (r1, r2) := H
  have A5 := Aside0.mk A50
  clear A50
  replace H := Option.bind_eq_some_iff.mp H
  obtain ⟨t1177, A60, H⟩ := H
  replace H : (some (t1177, true)) = some (r1, r2) := H
  have A6 := Aside0.mk A60
  clear A60
  simp only [Option.some.injEq, Prod.mk.injEq] at H
  obtain ⟨rfl, rfl⟩ := H
  go_enter Try.func42, Try.ntmps42
  go_wp2_with (first | ((with_reducible refine gate_dst (N := 1) rfl ?_); refine box_event ?hg (N := 1) ?hd (cs := #[.slice A0_0 l0_0.length c0_0]) (t := 28) ?hr ?_; (case hd => rfl); (case hg => rfl); (case hr => first | (go_simp; done) | (go_simp; rfl)); intro gb1169 hg w7 hbox hb; have n0_ := Aside0.mk (below_step (by repeat (first | (with_reducible first | exact HB.out | apply below_alloc | apply pw_below_drewN | apply below_drew1) | exact HB.out)) hb); have n1_ := Aside0.mk (hbox); have n2_ := Aside0.mk ((by rw [hg]; exact (below_size (by repeat (first | (with_reducible first | exact HB.out | apply below_alloc | apply pw_below_drewN | apply below_drew1) | exact HB.out))) : w.heap.size ≤ gb1169)); have n3_ := Aside0.mk ((by rw [hg]; exact (below_size (by repeat (first | (with_reducible first | exact HB.out | apply below_alloc | apply pw_below_drewN | apply below_drew1) | exact HB.out))) : w.heap.size ≤ gb1169)); clear HB; have HB := n0_; have BK1169 := n1_; have GW1169 := n2_; have GE1169 := n3_; clear n0_ n1_ n2_ n3_; clear hb hbox hg; have hcz8_0 : w7.cell? ⟨gb1169, 0, none⟩ = some (.slice A0_0 l0_0.length c0_0) := (blk_cell BK1169.out 0).trans rfl; have hfz8_0 := blk_frozen BK1169.out 0) | ((with_reducible refine gate_callee (f := 91) rfl ?_); refine goesL_ (some 5) rfl rfl Try.func91 (by kernel_rfl) rfl #[.agg #[.slice A0_0 l0_0.length c0_0]] rfl (by (try simp only [List.map_toArray, List.map_cons, List.map_nil]); first | done | rfl | (simp only [List.length_drop, List.length_take]; rfl)) ?_; (with_reducible refine (impl_IsPoset.calls k _ _ l0_0 true _ ?side1 ?side2 A2.out).mono ?_); (case side1 => repeat (first | exact (Kd.C_below HR0_0.out HB.out) | (with_reducible refine Kd.C_alloc ?_ _) | (with_reducible refine Kd.C_drewN ?_ _) | (with_reducible refine Kd.C_drew ?_))); (case side2 => exact HC0_0.out); rintro e w9 ⟨rfl, hb⟩; refine ⟨_, rfl, ?_⟩; have n0_ := Aside0.mk (blk_below (g := gb1169) (o := .cells #[.slice A0_0 l0_0.length c0_0] 28 (0, 0)) (by (with_reducible repeat (first | refine blk_drewN ?_ _ | refine blk_drew ?_ | refine blk_alloc ?_ _)); exact BK1169.out) hb); have n1_ := Aside0.mk (below_step (by repeat (first | (with_reducible first | exact HB.out | apply below_alloc | apply pw_below_drewN | apply below_drew1 | refine below_set ?_ GE1169.out) | exact HB.out)) hb); clear BK1169; clear HB; have BK1169 := n0_; have HB := n1_; clear n0_ n1_; (try clear hb); (try clear hb2); (try clear hk); (try clear hi); have hcz10_0 : w9.cell? ⟨gb1169, 0, none⟩ = some (.slice A0_0 l0_0.length c0_0) := (blk_cell BK1169.out 0).trans rfl; have hfz10_0 := blk_frozen BK1169.out 0) | ((with_reducible refine gate_callee (f := 94) rfl ?_); refine goesL_ (some 8) rfl rfl Try.func94 (by kernel_rfl) rfl #[.agg #[.slice A0_0 l0_0.length c0_0]] rfl (by (try simp only [List.map_toArray, List.map_cons, List.map_nil]); first | done | rfl | (simp only [List.length_drop, List.length_take]; rfl)) ?_; (with_reducible refine (impl_Poset_orbits.calls k _ _ l0_0 t1171 _ ?side1 ?side2 A4.out).mono ?_); (case side1 => repeat (first | exact (Kd.C_below HR0_0.out HB.out) | (with_reducible refine Kd.C_alloc ?_ _) | (with_reducible refine Kd.C_drewN ?_ _) | (with_reducible refine Kd.C_drew ?_))); (case side2 => exact HC0_0.out); rintro e w11 ⟨v1172, rfl, ho0, hb⟩; refine ⟨_, rfl, ?_⟩; have n0_ := Aside0.mk (Kd.S_lower ho0 (below_size (by repeat (first | (with_reducible first | exact HB.out | apply below_alloc | apply pw_below_drewN | apply below_drew1 | refine below_set ?_ GE1169.out) | exact HB.out)))); have n1_ := Aside0.mk (blk_below (g := gb1169) (o := .cells #[.slice A0_0 l0_0.length c0_0] 28 (0, 0)) (by (with_reducible repeat (first | refine blk_drewN ?_ _ | refine blk_drew ?_ | refine blk_alloc ?_ _)); exact BK1169.out) hb); have n2_ := Aside0.mk (below_step (by repeat (first | (with_reducible first | exact HB.out | apply below_alloc | apply pw_below_drewN | apply below_drew1 | refine below_set ?_ GE1169.out) | exact HB.out)) hb); clear BK1169; clear HB; have HO1173 := n0_; have BK1169 := n1_; have HB := n2_; clear n0_ n1_ n2_; (try clear hb); (try clear hb2); (try clear hk); (try clear hi); (try clear ho0); obtain ⟨Ao12, co12, eo12⟩ := Kd.S_slice HO1173.out; subst eo12) | ((with_reducible refine gate_callee (f := 93) rfl ?_); refine goesL_ (some 9) rfl rfl Try.func93 (by kernel_rfl) rfl #[.slice Ao12 t1171.length co12] rfl (by (try simp only [List.map_toArray, List.map_cons, List.map_nil]); first | done | rfl | (simp only [List.length_drop, List.length_take]; rfl)) ?_; (with_reducible refine (impl_lengths_int.calls k _ _ t1171 t1174 _ ?side1 ?side2 A5.out).mono ?_); (case side1 => repeat (first | exact (Kd.S_reads' HO1173.out).2.2 | (with_reducible refine Kd.C_alloc ?_ _) | (with_reducible refine Kd.C_drewN ?_ _) | (with_reducible refine Kd.C_drew ?_))); (case side2 => exact (Kd.S_reads' HO1173.out).2.1); rintro e w13 ⟨v1175, rfl, ho0, hb⟩; refine ⟨_, rfl, ?_⟩; have n0_ := Aside0.mk (Kd.S_elder' (by (with_reducible repeat (first | apply Kd.S_alloc | apply Kd.S_drewN | apply Kd.S_drew)); exact HO1173.out) (Kd.R_base ho0) hb); have n1_ := Aside0.mk (Kd.R_lower ho0 (below_size (by repeat (first | (with_reducible first | exact HB.out | apply below_alloc | apply pw_below_drewN | apply below_drew1 | refine below_set ?_ GE1169.out) | exact HB.out)))); have n2_ := Aside0.mk (blk_below (g := gb1169) (o := .cells #[.slice A0_0 l0_0.length c0_0] 28 (0, 0)) (by (with_reducible repeat (first | refine blk_drewN ?_ _ | refine blk_drew ?_ | refine blk_alloc ?_ _)); exact BK1169.out) hb); have n3_ := Aside0.mk (below_step (by repeat (first | (with_reducible first | exact HB.out | apply below_alloc | apply pw_below_drewN | apply below_drew1 | refine below_set ?_ GE1169.out) | exact HB.out)) hb); clear HO1173; clear BK1169; clear HB; have HO1173 := n0_; have HO1176 := n1_; have BK1169 := n2_; have HB := n3_; clear n0_ n1_ n2_ n3_; (try clear hb); (try clear hb2); (try clear hk); (try clear hi); (try clear ho0); obtain ⟨Ao14, co14, eo14⟩ := Kd.R_slice HO1176.out; subst eo14) | ((with_reducible refine gate_callee (f := 92) rfl ?_); refine goesL_ (some 10) rfl rfl Try.func92 (by kernel_rfl) rfl #[.slice Ao14 t1174.length co14] rfl (by (try simp only [List.map_toArray, List.map_cons, List.map_nil]); first | done | rfl | (simp only [List.length_drop, List.length_take]; rfl)) ?_; (with_reducible refine (impl_sorted.calls _ _ t1174 t1177 _ ?side1 ?side2 A6.out).mono ?_); (case side1 => repeat (first | exact (Kd.R_reads' HO1176.out).2.2 | (with_reducible refine Kd.C_alloc ?_ _) | (with_reducible refine Kd.C_drewN ?_ _) | (with_reducible refine Kd.C_drew ?_))); (case side2 => exact (Kd.R_reads' HO1176.out).2.1); rintro e w15 ⟨v1178, rfl, ho0, hb⟩; refine ⟨_, rfl, ?_⟩; have n0_ := Aside0.mk (Kd.S_elder' (by (with_reducible repeat (first | apply Kd.S_alloc | apply Kd.S_drewN | apply Kd.S_drew)); exact HO1173.out) (Kd.R_base ho0) hb); have n1_ := Aside0.mk (Kd.R_elder' (by (with_reducible repeat (first | apply Kd.R_alloc | apply Kd.R_drewN | apply Kd.R_drew)); exact HO1176.out) (Kd.R_base ho0) hb); have n2_ := Aside0.mk (Kd.R_lower (Kd.R_new' ho0 (Kd.R_lt (by (with_reducible repeat (first | apply Kd.R_alloc | apply Kd.R_drewN | apply Kd.R_drew)); exact HO1176.out))) (below_size (by repeat (first | (with_reducible first | exact HB.out | apply below_alloc | apply pw_below_drewN | apply below_drew1 | refine below_set ?_ GE1169.out) | exact HB.out)))); have n3_ := Aside0.mk (blk_below (g := gb1169) (o := .cells #[.slice A0_0 l0_0.length c0_0] 28 (0, 0)) (by (with_reducible repeat (first | refine blk_drewN ?_ _ | refine blk_drew ?_ | refine blk_alloc ?_ _)); exact BK1169.out) hb); have n4_ := Aside0.mk (below_step (by repeat (first | (with_reducible first | exact HB.out | apply below_alloc | apply pw_below_drewN | apply below_drew1 | refine below_set ?_ GE1169.out) | exact HB.out)) hb); clear HO1173; clear HO1176; clear BK1169; clear HB; have HO1173 := n0_; have HO1176 := n1_; have HO1179 := n2_; have BK1169 := n3_; have HB := n4_; clear n0_ n1_ n2_ n3_ n4_; (try clear hb); (try clear hb2); (try clear hk); (try clear hi); (try clear ho0)))
  go_ret2
  exact ⟨_, by first | rfl | (simp [errW_none, errW_some] <;> rfl) | (simp [*, errW_none, errW_some] <;> rfl), by (with_reducible repeat (first | apply Kd.R_alloc | apply Kd.R_drewN | apply Kd.R_drew)); exact Kd.R_mono HO1179.out (fun _ hk => trivial), by repeat (first | (with_reducible first | exact HB.out | apply below_alloc | apply pw_below_drewN | apply below_drew1 | refine below_set ?_ GE1169.out) | exact HB.out)⟩
 ·
  replace c3 := Bool.eq_false_iff.mpr c3
  subst c3
  have H1 : (some (([] : List Int), false)) = some (r1, r2) := by rw [if_neg (show ¬ (false = true) by decide)] at H; exact H
  clear H
  have H := H1
  clear H1
  simp only [Option.some.injEq, Prod.mk.injEq] at H
  obtain ⟨rfl, rfl⟩ := H
  go_enter Try.func42, Try.ntmps42
  go_wp2_with (first | ((with_reducible refine gate_dst (N := 1) rfl ?_); refine box_event ?hg (N := 1) ?hd (cs := #[.slice A0_0 l0_0.length c0_0]) (t := 28) ?hr ?_; (case hd => rfl); (case hg => rfl); (case hr => first | (go_simp; done) | (go_simp; rfl)); intro gb1169 hg w16 hbox hb; have n0_ := Aside0.mk (below_step (by repeat (first | (with_reducible first | exact HB.out | apply below_alloc | apply pw_below_drewN | apply below_drew1) | exact HB.out)) hb); have n1_ := Aside0.mk (hbox); have n2_ := Aside0.mk ((by rw [hg]; exact (below_size (by repeat (first | (with_reducible first | exact HB.out | apply below_alloc | apply pw_below_drewN | apply below_drew1) | exact HB.out))) : w.heap.size ≤ gb1169)); have n3_ := Aside0.mk ((by rw [hg]; exact (below_size (by repeat (first | (with_reducible first | exact HB.out | apply below_alloc | apply pw_below_drewN | apply below_drew1) | exact HB.out))) : w.heap.size ≤ gb1169)); clear HB; have HB := n0_; have BK1169 := n1_; have GW1169 := n2_; have GE1169 := n3_; clear n0_ n1_ n2_ n3_; clear hb hbox hg; have hcz17_0 : w16.cell? ⟨gb1169, 0, none⟩ = some (.slice A0_0 l0_0.length c0_0) := (blk_cell BK1169.out 0).trans rfl; have hfz17_0 := blk_frozen BK1169.out 0) | ((with_reducible refine gate_callee (f := 91) rfl ?_); refine goesL_ (some 5) rfl rfl Try.func91 (by kernel_rfl) rfl #[.agg #[.slice A0_0 l0_0.length c0_0]] rfl (by (try simp only [List.map_toArray, List.map_cons, List.map_nil]); first | done | rfl | (simp only [List.length_drop, List.length_take]; rfl)) ?_; (with_reducible refine (impl_IsPoset.calls k _ _ l0_0 false _ ?side1 ?side2 A2.out).mono ?_); (case side1 => repeat (first | exact (Kd.C_below HR0_0.out HB.out) | (with_reducible refine Kd.C_alloc ?_ _) | (with_reducible refine Kd.C_drewN ?_ _) | (with_reducible refine Kd.C_drew ?_))); (case side2 => exact HC0_0.out); rintro e w18 ⟨rfl, hb⟩; refine ⟨_, rfl, ?_⟩; have n0_ := Aside0.mk (blk_below (g := gb1169) (o := .cells #[.slice A0_0 l0_0.length c0_0] 28 (0, 0)) (by (with_reducible repeat (first | refine blk_drewN ?_ _ | refine blk_drew ?_ | refine blk_alloc ?_ _)); exact BK1169.out) hb); have n1_ := Aside0.mk (below_step (by repeat (first | (with_reducible first | exact HB.out | apply below_alloc | apply pw_below_drewN | apply below_drew1 | refine below_set ?_ GE1169.out) | exact HB.out)) hb); clear BK1169; clear HB; have BK1169 := n0_; have HB := n1_; clear n0_ n1_; (try clear hb); (try clear hb2); (try clear hk); (try clear hi)))
  go_ret2
  exact ⟨_, by first | rfl | (simp [errW_none, errW_some] <;> rfl) | (simp [*, errW_none, errW_some] <;> rfl), by first | exact Kd.R_nil _ _ _ _ _ | exact Kd.N_nil _ _ _ _ _ | exact Kd.V_nil _ _ _ _ _ | exact Kd.Q_nil _ _ _ _ _ | exact Kd.S_nil _ _ _ _ _, by repeat (first | (with_reducible first | exact HB.out | apply below_alloc | apply pw_below_drewN | apply below_drew1 | refine below_set ?_ GE1169.out) | exact HB.out)⟩
end Go.Proofs.Ytpdgiinedbdamaa.L
end
