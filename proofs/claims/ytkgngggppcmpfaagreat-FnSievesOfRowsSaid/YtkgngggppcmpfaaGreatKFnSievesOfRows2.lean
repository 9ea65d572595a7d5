/- Laws about the given program: the law FnSievesOfRows answers true for every input that its row lets in; no condition is added to the given statement. Contracts of the Go functions that it reaches, and the plain proof over lists. -/
import Derived.Test.YtkgngggppcmpfaaGreatWFnSievesOfRows0
import Derived.Test.YtkgngggppcmpfaaGreatKFnSievesOfRows0
import Derived.Test.YtkgngggppcmpfaaGreatKFnSievesOfRows1
section
namespace Go.Proofs.YtkgngggppcmpfaaGreat.L
open Go.RowKit Go.Proofs.YtkgngggppcmpfaaGreatW.PrintWords Go.Proofs.YtkgngggppcmpfaaGreatW.PrintLast Go.Proofs.YtkgngggppcmpfaaGreatW.PrintMore Go.Proofs.YtkgngggppcmpfaaGreat.X
attribute [local go_sem] max2_int min2_int max_two min_two max_three min_three max_four min_four
set_option linter.unusedVariables false
set_option linter.unusedSimpArgs false
def spec_DrawCountTableaux.f (l0 : List Int) : Option (Int × Int) := (spec_l1Cur_sides.f l0 0 0).bind fun bt208 => (some (bt208.1, bt208.2.1))
set_option maxHeartbeats 8000000 in
set_option maxRecDepth 100000 in
theorem spec_DrawCountTableaux.calls (A0 : Option Addr) (c0 : Nat) (l0 : List Int) (r1 : Int) (r2 : Int) (w : World) (hr0 : Kd.C (Kd.int .u8) w A0 l0.length l0) (hc0 : l0.length ≤ c0) (h : spec_DrawCountTableaux.f l0 = some (r1, r2)) :
    Calls Tryz.prog 202 #[.slice A0 l0.length c0] w fun e w' => e = .returned (.tuple #[.int .i64 r1, .int .i64 r2]) ∧ Below w.heap.size w w' := by
  have hu94 := Tryz.underlying94
  have HR0 := Aside0.mk hr0
  have HC0 := Aside0.mk hc0
  clear hr0 hc0
  have HB := Aside0.mk (Below.refl w.heap.size w)
  have H : ((spec_l1Cur_sides.f l0 0 0).bind fun bt208 => (some (bt208.1, bt208.2.1))) = some (r1, r2) := h
  clear h
  obtain ⟨⟨t208, t209, t210, t211⟩, A2, H⟩ := bs H; (try dsimp only at H)
  simp only [Option.some.injEq, Prod.mk.injEq] at H
  obtain ⟨rfl, rfl⟩ := H
  go_enter Tryz.func202, Tryz.ntmps202
  go_wp2_with (first | ((with_reducible refine gate_dst (N := 7) rfl ?_); refine box_event ?hg (N := 7) ?hd (cs := #[.slice A0 l0.length c0, .int .i64 0, .int .u64 0]) (t := 94) ?hr ?_; (case hd => rfl); (case hg => rfl); (case hr => first | (go_simp; done) | (go_simp; rfl)); intro gb207 hg w3 hbox hb; have n0_ := Aside0.mk (below_step (by repeat (first | (with_reducible first | exact HB.out | apply below_alloc | apply pw_below_drewN | apply below_drew1) | exact HB.out)) hb); have n1_ := Aside0.mk ((⟨_, _, hbox, (by rw [hg]; exact (below_size (by repeat (first | (with_reducible first | exact HB.out | apply below_alloc | apply pw_below_drewN | apply below_drew1) | exact HB.out))) : w.heap.size ≤ gb207), HR0.out⟩ : IsS94 w _ gb207 l0 0 0)); have n2_ := Aside0.mk ((by rw [hg]; exact (below_size (by repeat (first | (with_reducible first | exact HB.out | apply below_alloc | apply pw_below_drewN | apply below_drew1) | exact HB.out))) : w.heap.size ≤ gb207)); have n3_ := Aside0.mk ((by rw [hg]; exact (below_size (by repeat (first | (with_reducible first | exact HB.out | apply below_alloc | apply pw_below_drewN | apply below_drew1) | exact HB.out))) : w.heap.size ≤ gb207)); clear HB; have HB := n0_; have HI207 := n1_; have GW207 := n2_; have GE207 := n3_; clear n0_ n1_ n2_ n3_; clear hb hbox hg) | ((with_reducible refine gate_callee (f := 213) rfl ?_); refine goesL_ (some 9) rfl rfl Tryz.func213 (by kernel_rfl) rfl #[.pointer (some ⟨gb207, 0, none⟩)] rfl (by (try simp only [List.map_toArray, List.map_cons, List.map_nil]); first | done | rfl | (simp only [List.length_drop, List.length_take]; rfl)) ?_; (with_reducible refine (spec_l1Cur_sides.calls gb207 l0 0 0 t208 t209 t210 t211 w _ ?side1 ?side2 A2.out).mono ?_); (case side1 => repeat (first | (with_reducible first | exact HI207.out | apply IsS94.alloc | apply IsS94.drewN | apply IsS94.drew | apply IsS94.set_1 | apply IsS94.set_2) | exact HI207.out)); (case side2 => repeat (first | (with_reducible first | exact HB.out | apply below_alloc | apply pw_below_drewN | apply below_drew1 | refine below_set ?_ (IsS94.ge HI207.out)) | exact HB.out)); rintro e w4 ⟨rfl, hi, hb, hk⟩; refine ⟨_, rfl, ?_⟩; have n0_ := Aside0.mk (hb); have n1_ := Aside0.mk (hi); clear HB; clear HI207; have HB := n0_; have HI207 := n1_; clear n0_ n1_; (try clear hb); (try clear hb2); (try clear hk); (try clear hi)))
  go_ret2
  exact ⟨by first | rfl | (simp [errW_none, errW_some] <;> rfl) | (simp [*, errW_none, errW_some] <;> rfl), (IsS94.vB HB)⟩
def spec_DrawGaussOf.f (l0 : List Int) : Option (Int × Int) := (spec_DrawCountTableaux.f l0).bind fun bt212 => (some (bt212.1, bt212.2))
set_option maxHeartbeats 8000000 in
set_option maxRecDepth 100000 in
theorem spec_DrawGaussOf.calls (A0 : Option Addr) (c0 : Nat) (l0 : List Int) (r1 : Int) (r2 : Int) (w : World) (hr0 : Kd.C (Kd.int .u8) w A0 l0.length l0) (hc0 : l0.length ≤ c0) (h : spec_DrawGaussOf.f l0 = some (r1, r2)) :
    Calls Tryz.prog 59 #[.slice A0 l0.length c0] w fun e w' => e = .returned (.tuple #[.int .i64 r1, .int .i64 r2]) ∧ Below w.heap.size w w' := by
  have HR0 := Aside0.mk hr0
  have HC0 := Aside0.mk hc0
  clear hr0 hc0
  have HB := Aside0.mk (Below.refl w.heap.size w)
  have H : ((spec_DrawCountTableaux.f l0).bind fun bt212 => (some (bt212.1, bt212.2))) = some (r1, r2) := h
  clear h
  obtain ⟨⟨t212, t213⟩, A2, H⟩ := bs H; (try dsimp only at H)
  simp only [Option.some.injEq, Prod.mk.injEq] at H
  obtain ⟨rfl, rfl⟩ := H
  go_enter Tryz.func59, Tryz.ntmps59
  go_wp2_with (first | (refine gA (some 5) Tryz.func202 #[.slice A0 l0.length c0] ?_; (with_reducible refine (spec_DrawCountTableaux.calls _ _ l0 t212 t213 _ (uC HR0) HC0.out A2.out).mono ?_); rintro e w3 ⟨rfl, hb⟩; refine ⟨_, rfl, ?_⟩; have n0_ := Aside0.mk (below_step (uB HB) hb); clear HB; have HB := n0_; clear n0_; (try clear hb)))
  go_ret2
  exact ⟨by first | rfl | (simp [errW_none, errW_some] <;> rfl) | (simp [*, errW_none, errW_some] <;> rfl), uB HB⟩
def impl_areSides.f (a0 : Int) (a1 : Int) (a2 : Int) : Option (Bool) := (impl_within.f a0 1 a2).bind fun t214 => (if t214 = true then ((impl_within.f a1 1 a2).bind fun t215 => (if t215 = true then (some (decide ((wrap64 (a0 * a1)) ≤ a2))) else (some false))) else (some false))
set_option maxHeartbeats 8000000 in
set_option maxRecDepth 100000 in
theorem impl_areSides.calls (a0 : Int) (a1 : Int) (a2 : Int) (r : Bool) (w : World) (h : impl_areSides.f a0 a1 a2 = some r) :
    Calls Tryz.prog 206 #[.int .i64 a0, .int .i64 a1, .int .i64 a2] w fun e w' => e = .returned (.bool r) ∧ Drawn0 w w' := by
  have H : ((impl_within.f a0 1 a2).bind fun t214 => (if t214 = true then ((impl_within.f a1 1 a2).bind fun t215 => (if t215 = true then (some (decide ((wrap64 (a0 * a1)) ≤ a2))) else (some false))) else (some false))) = some r := h
  clear h
  obtain ⟨t214, A4, H⟩ := bs H; (try dsimp only at H)
  by_cases c5 : t214 = true
  · subst c5
    rw [if_pos rfl] at H
    obtain ⟨t215, A6, H⟩ := bs H; (try dsimp only at H)
    by_cases c7 : t215 = true
    · subst c7
      rw [if_pos rfl] at H
      obtain rfl := Option.some.inj H
      go_enter Tryz.func206, Tryz.ntmps206
      go_wp2_with (first | (refine gA (some 9) Tryz.func159 #[.int .i64 a0, .int .i64 1, .int .i64 a2] ?_; (with_reducible refine (impl_within.calls a0 1 a2 true _ A4.out).mono ?_); rintro e w' ⟨rfl, ⟨nd, rfl⟩⟩; refine ⟨_, rfl, ?_⟩) | (go_at_call 159; (with_reducible refine (impl_within.calls a1 1 a2 true _ A6.out).mono ?_); rintro e w' ⟨rfl, ⟨nd, rfl⟩⟩))
      go_ret
      exact ⟨by first | rfl | (simp; done) | (simp [*]; done), by repeat (first | exact Drawn0.refl _ | apply Drawn0.step)⟩
    · replace c7 := Bool.eq_false_iff.mpr c7
      subst c7
      rw [if_neg (show ¬ (false = true) by decide)] at H
      obtain rfl := Option.some.inj H
      go_enter Tryz.func206, Tryz.ntmps206
      go_wp2_with (first | (refine gA (some 9) Tryz.func159 #[.int .i64 a0, .int .i64 1, .int .i64 a2] ?_; (with_reducible refine (impl_within.calls a0 1 a2 true _ A4.out).mono ?_); rintro e w' ⟨rfl, ⟨nd, rfl⟩⟩; refine ⟨_, rfl, ?_⟩) | (go_at_call 159; (with_reducible refine (impl_within.calls a1 1 a2 false _ A6.out).mono ?_); rintro e w' ⟨rfl, ⟨nd, rfl⟩⟩))
      go_ret
      exact ⟨by first | rfl | (simp; done) | (simp [*]; done), by repeat (first | exact Drawn0.refl _ | apply Drawn0.step)⟩
  · replace c5 := Bool.eq_false_iff.mpr c5
    subst c5
    rw [if_neg (show ¬ (false = true) by decide)] at H
    obtain rfl := Option.some.inj H
    go_enter Tryz.func206, Tryz.ntmps206
    go_wp2_with (first | (refine gA (some 9) Tryz.func159 #[.int .i64 a0, .int .i64 1, .int .i64 a2] ?_; (with_reducible refine (impl_within.calls a0 1 a2 false _ A4.out).mono ?_); rintro e w' ⟨rfl, ⟨nd, rfl⟩⟩; refine ⟨_, rfl, ?_⟩))
    go_ret
    exact ⟨by first | rfl | (simp; done) | (simp [*]; done), by repeat (first | exact Drawn0.refl _ | apply Drawn0.step)⟩
end Go.Proofs.YtkgngggppcmpfaaGreat.L
end
section
namespace Go.Proofs.YtkgngggppcmpfaaGreat.L
open Go.RowKit Go.Proofs.YtkgngggppcmpfaaGreatW.PrintWords Go.Proofs.YtkgngggppcmpfaaGreatW.PrintLast Go.Proofs.YtkgngggppcmpfaaGreatW.PrintMore
attribute [local go_sem] max2_int min2_int max_two min_two max_three min_three max_four min_four
set_option linter.unusedVariables false
set_option linter.unusedSimpArgs false
class Fn2 where
  p : Int → Int → Option Bool
def impl_rectangle_1.f [Fn2] (a0 : Int) (a1 : Int) : Option Bool := Fn2.p a0 a1
end Go.Proofs.YtkgngggppcmpfaaGreat.L
end
section
namespace Go.Proofs.YtkgngggppcmpfaaGreat.L
open Go.RowKit Go.Proofs.YtkgngggppcmpfaaGreatW.PrintWords Go.Proofs.YtkgngggppcmpfaaGreatW.PrintLast Go.Proofs.YtkgngggppcmpfaaGreatW.PrintMore Go.Proofs.YtkgngggppcmpfaaGreat.X
attribute [local go_sem] max2_int min2_int max_two min_two max_three min_three max_four min_four
set_option linter.unusedVariables false
variable [Fn2]
set_option linter.unusedSimpArgs false
mutual
def impl_made.l0 : Nat → Int → Int → List Int → Option (List Int)
  | 0, _, _, _ => none
  | k + 1, x11, x12, x221000 => if x12 < x11 then (impl_made.l1 k x12 x11 x12 x12 0 x221000) else (some x221000)
def impl_made.l1 : Nat → Int → Int → Int → Int → Int → List Int → Option (List Int)
  | 0, _, _, _, _, _, _ => none
  | k + 1, x6, x11, x12, x15, x16, x221000 => if x16 < x15 then ((impl_rectangle_1.f x16 x6).bind fun t221 => (if t221 = true then (if 0 ≤ x6 then (if x6 < (x221000.length : Int) then (if 0 ≤ x16 then (impl_made.l1 k x6 x11 x12 x15 (wrap64 (x16 + 1)) (x221000.set (x6 : Int).toNat (Go.bits .or .i64 (rd x221000 x6) (shl .i64 1 x16)))) else (none)) else (none)) else (none)) else (impl_made.l1 k x6 x11 x12 x15 (wrap64 (x16 + 1)) x221000))) else (impl_made.l0 k x11 (wrap64 (x12 + 1)) x221000)
end
def impl_made.f (k : Nat) (a0 : Int) (a1 : Int) : Option (List Int) := if 0 ≤ a0 then (if (a0 : Int).toNat ≤ 35184372088832 then (impl_made.l0 k a0 0 (List.replicate (a0 : Int).toNat 0)) else (none)) else (none)
theorem impl_made.mono_l : ∀ k, (∀ y0 y1 y2, LeO (impl_made.l0 k y0 y1 y2) (impl_made.l0 (k + 1) y0 y1 y2)) ∧ (∀ y0 y1 y2 y3 y4 y5, LeO (impl_made.l1 k y0 y1 y2 y3 y4 y5) (impl_made.l1 (k + 1) y0 y1 y2 y3 y4 y5))
  | 0 => ⟨fun _ _ _ r h => by simp [impl_made.l0] at h, fun _ _ _ _ _ _ r h => by simp [impl_made.l1] at h⟩
  | k + 1 => by
    obtain ⟨ih0, ih1⟩ := impl_made.mono_l k
    refine ⟨?_, ?_⟩
    · intro y0 y1 y2
      unfold impl_made.l0
      repeat' first
      | (with_reducible exact ih0 _ _ _)
      | (with_reducible exact ih1 _ _ _ _ _ _)
      | (with_reducible exact LeO.refl _)
      | (with_reducible exact LeO.none _)
      | (with_reducible refine LeO.ite ?_ ?_)
      | (with_reducible refine LeO.bind ?_ (fun _ => ?_))
      | exact ih0 _ _ _
      | exact ih1 _ _ _ _ _ _
      | exact LeO.none _
      | refine LeO.ite ?_ ?_
      | refine LeO.bind ?_ (fun _ => ?_)
    · intro y0 y1 y2 y3 y4 y5
      unfold impl_made.l1
      repeat' first
      | (with_reducible exact ih0 _ _ _)
      | (with_reducible exact ih1 _ _ _ _ _ _)
      | (with_reducible exact LeO.refl _)
      | (with_reducible exact LeO.none _)
      | (with_reducible refine LeO.ite ?_ ?_)
      | (with_reducible refine LeO.bind ?_ (fun _ => ?_))
      | exact ih0 _ _ _
      | exact ih1 _ _ _ _ _ _
      | exact LeO.none _
      | refine LeO.ite ?_ ?_
      | refine LeO.bind ?_ (fun _ => ?_)
theorem impl_made.mono : ∀ a0 a1 k, LeO (impl_made.f k a0 a1) (impl_made.f (k + 1) a0 a1) := by
  intro a0 a1 k
  obtain ⟨ih0, ih1⟩ := impl_made.mono_l k
  unfold impl_made.f
  repeat' first
      | (with_reducible exact ih0 _ _ _)
      | (with_reducible exact ih1 _ _ _ _ _ _)
      | (with_reducible exact LeO.refl _)
      | (with_reducible exact LeO.none _)
      | (with_reducible refine LeO.ite ?_ ?_)
      | (with_reducible refine LeO.bind ?_ (fun _ => ?_))
      | exact ih0 _ _ _
      | exact ih1 _ _ _ _ _ _
      | exact LeO.none _
      | refine LeO.ite ?_ ?_
      | refine LeO.bind ?_ (fun _ => ?_)
def impl_made.T9 : Bool × List (List Nat × List Nat) := (true, [([], []), ([0], [0]), ([], []), ([1, 2], [1, 2]), ([3], [3]), ([], []), ([5], [5]), ([4, 6], [4, 6]), ([1, 2, 0, 1, 2, 3, 4, 5, 6, 7], [1, 2]), ([8, 7, 0, 1, 2, 3, 4, 5, 6, 7], [7, 8])])
def impl_made.B9 : List Nat := [0, 1, 0, 7, 15, 0, 32, 127, 255, 511]
omit [Fn2] in
theorem impl_made.tab9 : rtab .any (opsOf Tryz.f263 9) = impl_made.T9 := by kernel_rfl
omit [Fn2] in
theorem impl_made.bits9 : waitsOk impl_made.T9.2 impl_made.B9 = true := by kernel_rfl
set_option maxHeartbeats 8000000 in
set_option maxRecDepth 100000 in
open Go.Proofs.YtkgngggppcmpfaaGreat.X in
theorem impl_made.calls (gF : Nat) (lbF : Array Value) (eg : ∀ args w, (callFunc gF args).run Tryz.prog w = .ok (.enter gF args) w) (k : Nat) (a0 : Int) (a1 : Int) (r : List Int) (w : World) (hpF : ∀ x0_ x1_ b, impl_rectangle_1.f x0_ x1_ = some b → Fv Tryz.prog gF lbF #[.int .i64 x0_, .int .i64 x1_] (.bool b) w) (h : impl_made.f k a0 a1 = some r) :
    Calls Tryz.prog 263 #[.int .i64 a0, .func (.func gF) #[] lbF] w fun e w' => ∃ v0_ : Value, e = .returned (.agg #[v0_]) ∧ Kd.R (Kd.int .i64) 3 w' w.heap.size (fun _ => True) v0_ r ∧ Below w.heap.size w w' := by
  have HP := Aside0.mk hpF
  clear hpF
  have hu26 := Tryz.underlying26
  have HB := Aside0.mk (Below.refl w.heap.size w)
  have H : (if 0 ≤ a0 then (if (a0 : Int).toNat ≤ 35184372088832 then (impl_made.l0 k a0 0 (List.replicate (a0 : Int).toNat 0)) else (none)) else (none)) = some r := h
  clear h
  by_cases c3 : 0 ≤ a0
  · rw [if_pos c3] at H
    have c3b0 := eq_true c3
    have c3b1 := decide_eq_true c3
    clear c3
    by_cases c4 : (a0 : Int).toNat ≤ 35184372088832
    · rw [if_pos c4] at H
      have c4b0 := eq_true c4
      have c4b1 := decide_eq_true c4
      clear c4
      obtain ⟨y217, hy217⟩ : ∃ y_ : List Int, y_ = (List.replicate (a0 : Int).toNat 0) := ⟨_, rfl⟩
      replace H : (impl_made.l0 k a0 0 y217) = some r := by first | (rw [hy217]; with_reducible exact H) | (have H2_ := (Option.bind_some _ _).symm.trans H; rw [hy217]; with_reducible exact H2_) | (have H2_ := (Option.bind_some _ _).symm.trans H; with_reducible exact H2_) | with_reducible exact H | (rw [hy217]; exact H) | exact H
      have Ny217 := Aside0.mk hy217
      clear hy217
      have H' := Aside0.mk H
      clear H
      go_enter Tryz.func263, Tryz.ntmps263
      go_wp2_with (first | (refine bE (N := 4) (cs := #[.slice none 0 0]) (t := 26) ?_; intro gb216 hg w5 hbox hb; have n0_ := Aside0.mk (below_step (uB HB) hb); have n1_ := Aside0.mk (hbox); have n2_ := Aside0.mk ((by rw [hg]; exact (below_size (uB HB)) : w.heap.size ≤ gb216)); have n3_ := Aside0.mk ((by rw [hg]; exact (below_size (uB HB)) : w.heap.size ≤ gb216)); clear HB; have HB := n0_; have BK216 := n1_; have GW216 := n2_; have GE216 := n3_; clear n0_ n1_ n2_ n3_; clear hb hbox hg) | ((with_reducible refine gate_dst (N := 9) rfl ?_); refine Kd.R_make (Kd.int .i64) _ 3 rfl (N := 9) rfl 24 _ _ rfl a0 rfl rfl Tryz.underlying24 (.int .i64 0) 8 info3 rfl (by decide) (by omega) 0 (ok := fun _ => True) (okp := fun _ => True) rfl (fun _ hk => hk) trivial (of_decide_eq_true (by first | (with_reducible assumption) | assumption)) (Nat.le_trans (Nat.mul_le_mul_right _ (of_decide_eq_true (by first | (with_reducible assumption) | assumption) : a0.toNat ≤ 35184372088832)) (by omega)) (Below.refl _ _) (Nat.le_refl _) ?_; intro v218 w6 ho7 hb hg_ hnew_; clear hg_ hnew_; (first | rw [← Ny217.out] at ho7 | (simp only [Int.reduceToNat] at ho7; rw [← Ny217.out] at ho7)); have n0_ := Aside0.mk (Kd.R_lower ho7 (below_size (vB HB))); have n1_ := Aside0.mk (blk_below (uK BK216) hb); have n2_ := Aside0.mk (below_step (vB HB) hb); clear BK216; clear HB; have HO219 := n0_; have BK216 := n1_; have HB := n2_; clear n0_ n1_ n2_; clear hb ho7; obtain ⟨Ao8, co8, eo8⟩ := Kd.R_slice HO219.out; subst eo8) | (refine bE (N := 5) (cs := #[.slice none 0 0]) (t := 26) ?_; intro gb220 hg w9 hbox hb; have n0_ := Aside0.mk (Kd.R_below (uR HO219) hb); have n1_ := Aside0.mk (blk_below (uK BK216) hb); have n2_ := Aside0.mk (below_step (vB HB) hb); have n3_ := Aside0.mk (hbox); have n4_ := Aside0.mk ((by rw [hg]; exact (below_size (vB HB)) : w.heap.size ≤ gb220)); have n5_ := Aside0.mk ((by rw [hg]; exact (below_size (vB HB)) : w.heap.size ≤ gb220)); have n6_ := Aside0.mk ((by rw [hg]; exact Nat.ne_of_lt (blk_lt (uK BK216)) : gb216 ≠ gb220)); have n7_ := Aside0.mk ((by rw [hg]; exact Nat.ne_of_gt (blk_lt (uK BK216)) : gb220 ≠ gb216)); clear HO219; clear BK216; clear HB; have HO219 := n0_; have BK216 := n1_; have HB := n2_; have BK220 := n3_; have GW220 := n4_; have GE220 := n5_; have NB216_220 := n6_; have NB220_216 := n7_; clear n0_ n1_ n2_ n3_ n4_ n5_ n6_ n7_; clear hb hbox hg; have hnb10 := NB220_216.out; have hnc10 := NB216_220.out; have hcz11_0 := bC BK220; have hfz11_0 := blk_frozen BK220.out 0))
      go_loopg [12] k (fun kq v12 w' => ∃ (x12_1 : Int) (x221000_1 : List Int) (u221000 : Value), v12 = .int .i64 x12_1 ∧ Aside0 (impl_made.l0 kq a0 x12_1 x221000_1 = some r) ∧ Aside0 (kq ≤ k) ∧ Aside0 (Kd.R (Kd.int .i64) 3 w' w.heap.size (fun _ => True) u221000 x221000_1) ∧ Aside0 (w'.heap[gb216]? = some (.cells #[(.slice none 0 0)] 26 (0, 0))) ∧ Aside0 (w'.heap[gb220]? = some (.cells #[u221000] 26 (0, 0))) ∧ Aside0 (Below w.heap.size w w'))
      case atStart => exact ⟨(0), (y217), (.slice Ao8 y217.length co8), (by first | rfl | (simp; done) | (simp [*]; done)), H', ⟨Nat.le_refl _⟩, ⟨by (with_reducible repeat (first | apply Kd.R_alloc | apply Kd.R_drewN | apply Kd.R_drew)); exact Kd.R_mono (Kd.R_far (p := ⟨gb220, 0, none⟩) (Kd.R_types HO219.out BK220.out (by decide)) (fun _ hk => hk.2) (.slice Ao8 y217.length co8)) (fun _ hk => trivial)⟩, ⟨kF⟩, ⟨bP⟩, ⟨(vB HB)⟩⟩
      case round =>
        clear H'
        try clear c3b0 c3b1 c4b0 c4b1 hcz11_0 hfz11_0
        obtain ⟨x12_1, x221000_1, u221000, rfl, HA, HK1, HO_221000, BK216, BK220, HB⟩ := hrel
        cases gk with
        | zero => exact absurd HA.out (by simp [impl_made.l0])
        | succ k1 =>
          have H := HA.out
          clear HA
          simp only [impl_made.l0] at H
          by_cases c12 : x12_1 < a0
          · rw [if_pos c12] at H
            have c12b0 := decide_eq_true c12
            clear c12
            have H' := Aside0.mk H
            clear H
            go_wp2
            go_loopg [16] k1 (fun kq v16 w' => ∃ (x16_2 : Int) (x221000_2 : List Int) (u221000 : Value), v16 = .int .i64 x16_2 ∧ Aside0 (impl_made.l1 kq x12_1 a0 x12_1 x12_1 x16_2 x221000_2 = some r) ∧ Aside0 (kq ≤ k1) ∧ Aside0 (Kd.R (Kd.int .i64) 3 w' w.heap.size (fun _ => True) u221000 x221000_2) ∧ Aside0 (w'.heap[gb216]? = some (.cells #[(.slice none 0 0)] 26 (0, 0))) ∧ Aside0 (w'.heap[gb220]? = some (.cells #[u221000] 26 (0, 0))) ∧ Aside0 (Below w.heap.size w w'))
            case atStart => exact ⟨(0), (x221000_1), (u221000), (by first | rfl | (simp; done) | (simp [*]; done)), H', ⟨Nat.le_refl _⟩, ⟨uR HO_221000⟩, ⟨uK BK216⟩, ⟨uK BK220⟩, ⟨(vB HB)⟩⟩
            case round =>
              clear H'
              try clear c12b0
              obtain ⟨x16_2, x221000_2, u221000, rfl, HA, HK2, HO_221000, BK216, BK220, HB⟩ := hrel
              cases gk with
              | zero => exact absurd HA.out (by simp [impl_made.l1])
              | succ k2 =>
                have H := HA.out
                clear HA
                simp only [impl_made.l1] at H
                by_cases c13 : x16_2 < x12_1
                · rw [if_pos c13] at H
                  have c13b0 := decide_eq_true c13
                  clear c13
                  obtain ⟨t221, A14, H⟩ := bs H; (try dsimp only at H)
                  by_cases c15 : t221 = true
                  · subst c15
                    rw [if_pos rfl] at H
                    by_cases c16 : 0 ≤ x12_1
                    · rw [if_pos c16] at H
                      have c16b0 := decide_eq_true c16
                      clear c16
                      by_cases c17 : x12_1 < (x221000_2.length : Int)
                      · rw [if_pos c17] at H
                        have c17b0 := decide_eq_true c17
                        clear c17
                        by_cases c18 : 0 ≤ x16_2
                        · rw [if_pos c18] at H
                          have c18b0 := eq_true c18
                          have c18b1 := decide_eq_true c18
                          clear c18
                          obtain ⟨ji19, hji19⟩ : ∃ j_ : Int, (shl .i64 1 x16_2) = j_ := ⟨_, rfl⟩
                          replace H : (impl_made.l1 k2 x12_1 a0 x12_1 x12_1 (wrap64 (x16_2 + 1)) (x221000_2.set (x12_1 : Int).toNat (Go.bits .or .i64 (rd x221000_2 x12_1) (ji19)))) = some r := by first | (rw [hji19] at H; exact H) | (simp only [hji19] at H ⊢; exact H)
                          (try rw [hji19] at A14)
                          have hji19_ : (IntKind.i64.wrap (1 * 2 ^ min x16_2.toNat 64)) = ji19 := hji19
                          have hji19z : x16_2 ≤ 64 → (IntKind.i64.wrap (1 * 2 ^ x16_2.toNat)) = ji19 := shl_small hji19
                          have hji19u : (IntKind.i64.wrap (2 ^ min x16_2.toNat 64)) = ji19 := by have h_ := hji19_; rw [Int.one_mul] at h_; exact h_
                          have hji19v : x16_2 ≤ 64 → (IntKind.i64.wrap (2 ^ x16_2.toNat)) = ji19 := fun hle_ => by have h_ := hji19z hle_; rw [Int.one_mul] at h_; exact h_
                          have hji19y : (wrap64 (1 * 2 ^ min x16_2.toNat 64)) = ji19 := (i64_w _).symm.trans hji19_
                          have hji19x : x16_2 ≤ 64 → (wrap64 (1 * 2 ^ x16_2.toNat)) = ji19 := fun h_ => (i64_w _).symm.trans (hji19z h_)
                          obtain ⟨y223, hy223⟩ : ∃ y_ : List Int, y_ = (x221000_2.set (x12_1 : Int).toNat (Go.bits .or .i64 (rd x221000_2 x12_1) (ji19))) := ⟨_, rfl⟩
                          replace H : (impl_made.l1 k2 x12_1 a0 x12_1 x12_1 (wrap64 (x16_2 + 1)) y223) = some r := by first | (rw [hy223]; with_reducible exact H) | (have H2_ := (Option.bind_some _ _).symm.trans H; rw [hy223]; with_reducible exact H2_) | (have H2_ := (Option.bind_some _ _).symm.trans H; with_reducible exact H2_) | with_reducible exact H | (rw [hy223]; exact H) | exact H
                          have Ny223 := Aside0.mk hy223
                          clear hy223
                          have H' := Aside0.mk H
                          clear H
                          try go_wp2_with (first | (go_at_fn gF; (with_reducible refine (Fv.calls (HP.out _ _ _ A14.out) (vB HB)).mono ?_); rintro e w21 ⟨rfl, hb⟩; have n0_ := Aside0.mk (Kd.R_below (uR HO_221000) hb); have n1_ := Aside0.mk (blk_below (uK BK216) hb); have n2_ := Aside0.mk (blk_below (uK BK220) hb); have n3_ := Aside0.mk (below_step (vB HB) hb); clear HO_221000; clear BK216; clear BK220; clear HB; have HO_221000 := n0_; have BK216 := n1_; have BK220 := n2_; have HB := n3_; clear n0_ n1_ n2_ n3_; (try clear hb)))
                          have n0_ := Aside0.mk (Kd.R_drew HO_221000.out)
                          have n1_ := Aside0.mk (blk_drew BK216.out)
                          have n2_ := Aside0.mk (blk_drew BK220.out)
                          have n3_ := Aside0.mk (below_drew1 HB.out)
                          clear HO_221000
                          clear BK216
                          clear BK220
                          clear HB
                          have HO_221000 := n0_
                          have BK216 := n1_
                          have BK220 := n2_
                          have HB := n3_
                          clear n0_ n1_ n2_ n3_
                          obtain ⟨Ao23, co23, eo23⟩ := Kd.R_slice HO_221000.out
                          (first | subst eo23 | (injection eo23 with f1_ f2_ f3_; have f4_ := f1_.symm; have f5_ := f3_.symm; clear f1_ f2_ f3_; subst f4_; subst f5_))
                          have p222 : 0 ≤ (x12_1 : Int) := of_decide_eq_true (by first | (with_reducible assumption) | assumption)
                          have q222 : x12_1 < (x221000_2.length : Int) := of_decide_eq_true (by first | (with_reducible assumption) | assumption)
                          obtain ⟨ad222, e222, hx222_0⟩ := Kd.at_int (Kd.R_reads' HO_221000.out).2.2 x12_1 p222 q222
                          cases e222
                          replace p222 := eq_true p222
                          replace q222 := eq_true q222
                          have p20 : 0 ≤ (x12_1 : Int) := of_decide_eq_true (by first | (with_reducible assumption) | assumption)
                          have q20 : (x12_1 : Int) < ((x221000_2.length : Int) : Int) := of_decide_eq_true (by first | (with_reducible assumption) | assumption)
                          obtain ⟨go20, co20, eo20, gb20, gl20, cl20, HG20⟩ := Kd.R_form HO_221000.out (by omega)
                          (first | cases eo20 | (injection eo20 with ea_ en_ ec_; (first | subst ea_ | (injection ea_ with ea_; subst ea_)); subst ec_; clear en_))
                          have GB20 := Aside0.mk gb20
                          have GG20 := Aside0.mk HG20
                          clear gb20 gl20 HG20
                          (first | simp only [add_plain] at hx222_0 | skip)
                          obtain ⟨hx20_0, hf20_0⟩ := Kd.R_celln 0 HO_221000.out (x12_1 : Int) p20 q20
                          replace p20 := eq_true p20
                          replace q20 := eq_true q20
                          have HP24 := Kd.R_putn HO_221000.out (x12_1 : Int) (Go.bits .or .i64 (rd x221000_2 x12_1) (ji19))
                          rw [← Ny223.out] at HP24
                          have HQ24 := Aside0.mk HP24
                          clear HP24
                          refine sU (n := 10) (S := fun w' => w'.cell? ⟨gb220, 0, none⟩ = some (.slice (some ⟨go20, 0, none⟩) x221000_2.length co23) ∧ w'.cell? ⟨go20, (x12_1).toNat, none⟩ = some (.int .i64 (rd x221000_2 x12_1))) (ds := [9]) ⟨(blk_cell BK220.out 0).trans rfl, hx222_0⟩ (fun hHeld => ?_); refine with_tabW impl_made.tab9 impl_made.bits9 (fun HT_ HW_ => ?_)
                          generalize w21.drew = w22 at HO_221000 BK216 BK220 HB GG20 HQ24 hf20_0 hx20_0 hx222_0 hHeld ⊢
                          refine pU 0 23 ?_
                          refine pU 2 25 ?_
                          refine pU 5 28 ?_
                          refine pU 6 29 ?_
                          refine tW 1 24 hHeld ?_
                          refine pU 3 26 ?_
                          refine tW 4 27 hHeld ?_
                          refine pU 7 30 ?_
                          refine pU 8 31 ?_
                          refine lU 9 none fun K hK => ?_
                          refine sK ?_
                          refine hK.out _ _ ?_
                          clear hK K
                          refine dU ?_
                          try go_wp2
                          go_roundg k2
                          case measure => have := HK1.out; have := HK2.out; omega
                          case rel => exact ⟨(wrap64 (x16_2 + 1)), (y223), (.slice (some ⟨go20, 0, none⟩) x221000_2.length co23), (by first | rfl | (simp; done) | (simp [*]; done)), H', ⟨by have := HK1.out; have := HK2.out; omega⟩, ⟨uR HQ24⟩, ⟨by (with_reducible repeat (first | refine blk_drewN ?_ _ | refine blk_drew ?_ | refine blk_alloc ?_ _)); refine blk_far ?_ (by have h_ := Kd.R_ne HO_221000.out BK216.out (by decide); intro e_; exact h_ (by rw [e_]; rfl)) _; (with_reducible repeat (first | refine blk_drewN ?_ _ | refine blk_drew ?_ | refine blk_alloc ?_ _)); exact BK216.out⟩, ⟨by (with_reducible repeat (first | refine blk_drewN ?_ _ | refine blk_drew ?_ | refine blk_alloc ?_ _)); refine blk_far ?_ (by have h_ := Kd.R_ne HO_221000.out BK220.out (by decide); intro e_; exact h_ (by rw [e_]; rfl)) _; (with_reducible repeat (first | refine blk_drewN ?_ _ | refine blk_drew ?_ | refine blk_alloc ?_ _)); exact BK220.out⟩, ⟨(vB HB)⟩⟩
                        · rw [if_neg c18] at H
                          exact absurd H (by simp)
                      · rw [if_neg c17] at H
                        exact absurd H (by simp)
                    · rw [if_neg c16] at H
                      exact absurd H (by simp)
                  · replace c15 := Bool.eq_false_iff.mpr c15
                    subst c15
                    rw [if_neg (show ¬ (false = true) by decide)] at H
                    have H' := Aside0.mk H
                    clear H
                    go_wp2_with (first | (go_at_fn gF; (with_reducible refine (Fv.calls (HP.out _ _ _ A14.out) (vB HB)).mono ?_); rintro e w25 ⟨rfl, hb⟩; have n0_ := Aside0.mk (Kd.R_below (uR HO_221000) hb); have n1_ := Aside0.mk (blk_below (uK BK216) hb); have n2_ := Aside0.mk (blk_below (uK BK220) hb); have n3_ := Aside0.mk (below_step (vB HB) hb); clear HO_221000; clear BK216; clear BK220; clear HB; have HO_221000 := n0_; have BK216 := n1_; have BK220 := n2_; have HB := n3_; clear n0_ n1_ n2_ n3_; (try clear hb)))
                    go_roundg k2
                    case measure => have := HK1.out; have := HK2.out; omega
                    case rel => exact ⟨(wrap64 (x16_2 + 1)), (x221000_2), (u221000), (by first | rfl | (simp; done) | (simp [*]; done)), H', ⟨by have := HK1.out; have := HK2.out; omega⟩, ⟨uR HO_221000⟩, ⟨uK BK216⟩, ⟨uK BK220⟩, ⟨(vB HB)⟩⟩
                · rw [if_neg c13] at H
                  have c13b0 := decide_eq_false c13
                  clear c13
                  have H' := Aside0.mk H
                  clear H
                  go_wp2
                  go_roundg k2
                  case measure => have := HK1.out; have := HK2.out; omega
                  case rel => exact ⟨(wrap64 (x12_1 + 1)), (x221000_2), (u221000), (by first | rfl | (simp; done) | (simp [*]; done)), H', ⟨by have := HK1.out; have := HK2.out; omega⟩, ⟨uR HO_221000⟩, ⟨uK BK216⟩, ⟨uK BK220⟩, ⟨(vB HB)⟩⟩
          · rw [if_neg c12] at H
            have c12b0 := decide_eq_false c12
            clear c12
            obtain rfl := Option.some.inj H
            have hnb26 := NB220_216.out
            have hnc26 := NB216_220.out
            have hcz27_0 := bC BK220
            have hfz27_0 := blk_frozen BK220.out 0
            obtain ⟨Ao28, co28, eo28⟩ := Kd.R_slice HO_221000.out
            subst eo28
            have hcz29_0 := bC BK216
            have hfz29_0 := blk_frozen BK216.out 0
            go_wp2
            refine bodyPost_ret (results_cell_row rfl _ _ gb216 26 #[.slice Ao28 x221000_1.length co28] (0, 0) _ rfl bP Tryz.underlying26 rfl (by kernel_rfl)) rfl ?_
            exact ⟨_, by first | rfl | (simp [errW_none, errW_some] <;> rfl) | (simp [*, errW_none, errW_some] <;> rfl), by (with_reducible repeat (first | apply Kd.R_alloc | apply Kd.R_drewN | apply Kd.R_drew)); exact Kd.R_mono (Kd.R_far (p := ⟨gb216, 0, none⟩) (Kd.R_types HO_221000.out BK216.out (by decide)) (fun _ hk => hk.2) (.slice Ao28 x221000_1.length co28)) (fun _ hk => trivial), (vB HB)⟩
    · rw [if_neg c4] at H
      exact absurd H (by simp)
  · rw [if_neg c3] at H
    exact absurd H (by simp)
end Go.Proofs.YtkgngggppcmpfaaGreat.L
end
section
namespace Go.Proofs.YtkgngggppcmpfaaGreat.L
open Go.RowKit Go.Proofs.YtkgngggppcmpfaaGreatW.PrintWords Go.Proofs.YtkgngggppcmpfaaGreatW.PrintLast Go.Proofs.YtkgngggppcmpfaaGreatW.PrintMore
attribute [local go_sem] max2_int min2_int max_two min_two max_three min_three max_four min_four
set_option linter.unusedVariables false
set_option linter.unusedSimpArgs false
@[reducible] def impl_rectangle.inst (b : Int) : Fn2 := ⟨fun j i => if b = 0 then none else some (decide (wrap64 (Int.tdiv j b) ≤ wrap64 (Int.tdiv i b)) && decide (Int.tmod j b ≤ Int.tmod i b))⟩
def impl_rectangle.f (k : Nat) (a0 : Int) (a1 : Int) : Option (List Int) := @impl_made.f (impl_rectangle.inst a1) k (wrap64 (a0 * a1)) 0
theorem impl_rectangle.laid (v : World) (o : Obj) : (v.alloc o).heap[v.heap.size]? = some o := by
  unfold World.alloc; simp
theorem impl_rectangle.mono : ∀ a0 a1 k, LeO (impl_rectangle.f k a0 a1) (impl_rectangle.f (k + 1) a0 a1) := fun a0 a1 k => @impl_made.mono (impl_rectangle.inst a1) _ _ k
open Go.Proofs.YtkgngggppcmpfaaGreat.X in
set_option maxHeartbeats 800000 in
set_option maxRecDepth 100000 in
theorem impl_rectangle.lit (b j i : Int) (t : Bool) (B : Nat) (w : World) (hB : B < w.heap.size) (hc : w.cell? ⟨B, 0, none⟩ = some (.int .i64 b)) (h : (impl_rectangle.inst b).p j i = some t) :
    Fv Tryz.prog 306 #[.pointer (some ⟨B, 0, none⟩)] #[.int .i64 j, .int .i64 i] (.bool t) w := by
  intro W hb
  have hc' : W.cell? ⟨B, 0, none⟩ = some (.int .i64 b) := (hb.cell (p := ⟨B, 0, none⟩) hB).trans hc
  clear hc hB hb
  unfold impl_rectangle.inst at h
  by_cases hb0 : b = 0
  · simp only [hb0, if_true] at h; cases h
  · have h' : some (decide (wrap64 (Int.tdiv j b) ≤ wrap64 (Int.tdiv i b)) && decide (Int.tmod j b ≤ Int.tmod i b)) = some t := by simpa only [if_neg hb0] using h
    obtain rfl := Option.some.inj h'
    clear h h'
    by_cases h1 : wrap64 (Int.tdiv j b) ≤ wrap64 (Int.tdiv i b)
    · have e1 : decide (wrap64 (Int.tdiv j b) ≤ wrap64 (Int.tdiv i b)) = true := decide_eq_true h1
      rw [e1, Bool.true_and]
      clear h1
      go_enter Tryz.func306, Tryz.ntmps306
      go_wp2
      repeat (go_quiet (fail); try go_wp2)
      go_ret
      exact ⟨rfl, by first | exact Below.refl _ _ | exact pw_below_drewN (Below.refl _ _) _⟩
    · have e1 : decide (wrap64 (Int.tdiv j b) ≤ wrap64 (Int.tdiv i b)) = false := decide_eq_false h1
      rw [e1, Bool.false_and]
      clear h1
      go_enter Tryz.func306, Tryz.ntmps306
      go_wp2
      repeat (go_quiet (fail); try go_wp2)
      go_ret
      exact ⟨rfl, by first | exact Below.refl _ _ | exact pw_below_drewN (Below.refl _ _) _⟩
open Go.Proofs.YtkgngggppcmpfaaGreat.X in
set_option maxHeartbeats 800000 in
set_option maxRecDepth 100000 in
theorem impl_rectangle.calls (k : Nat) (a0 : Int) (a1 : Int) (r : List Int) (w : World) (h : impl_rectangle.f k a0 a1 = some r) :
    Calls Tryz.prog 229 #[.int .i64 a0, .int .i64 a1] w fun e w' => ∃ v0_ : Value, e = .returned (.agg #[v0_]) ∧ Kd.R (Kd.int .i64) 3 w' w.heap.size (fun _ => True) v0_ r ∧ Below w.heap.size w w' := by
  unfold impl_rectangle.f at h
  have HF := Aside0.mk h
  clear h
  have hu := Tryz.underlying26
  go_enter Tryz.func229, Tryz.ntmps229
  go_wp2_with fail
  refine (@impl_made.calls (impl_rectangle.inst a1) 306 #[.pointer (some ⟨w.heap.size, 0, none⟩)] (enters_ Tryz.func306 (by kernel_rfl) rfl) k (wrap64 (a0 * a1)) 0 r _ (fun j i b hb => impl_rectangle.lit a1 j i b w.heap.size _ (by simp; omega) (by simp) hb) HF.out).mono ?_
  rintro e w2 ⟨v0, rfl, hR, hb⟩
  have hR2 := Kd.R_lower hR (show w.heap.size ≤ _ by simp; omega)
  have BK := Aside0.mk (show w2.heap[w.heap.size + 1]? = some (.cells #[.slice none 0 0] 26 (0, 0)) from blk_below (g := w.heap.size + 1) (o := .cells #[.slice none 0 0] 26 (0, 0)) (by rw [show w.heap.size + 1 = (w.alloc (.cells #[.int .i64 a1] 3)).heap.size by simp]; exact impl_rectangle.laid _ _) hb)
  have B2 := Aside0.mk (below_to (below_alloc (below_alloc (Below.refl w.heap.size w) (.cells #[.int .i64 a1] 3)) (.cells #[.slice none 0 0] 26)) hb)
  obtain ⟨Ao, co, eo⟩ := Kd.R_slice hR2
  subst eo
  have HO := Aside0.mk hR2
  have hcz : w2.cell? ⟨w.heap.size + 1, 0, none⟩ = some (.slice none 0 0) := (blk_cell BK.out 0).trans rfl
  have hfz := blk_frozen BK.out 0
  clear hR hR2 hb
  go_wp2
  refine bodyPost_ret (results_cell_row rfl _ _ (w.heap.size + 1) 26 #[.slice Ao r.length co] (0, 0) _ rfl (by (with_reducible repeat (first | refine blk_drewN ?_ _ | refine blk_drew ?_ | refine blk_alloc ?_ _)); refine blk_put (cs := #[.slice none 0 0]) ?_ 0 _ rfl; (with_reducible repeat (first | refine blk_drewN ?_ _ | refine blk_drew ?_ | refine blk_alloc ?_ _)); exact BK.out) Tryz.underlying26 rfl (by kernel_rfl)) rfl ?_
  exact ⟨_, by first | rfl | (simp; done), by (with_reducible repeat (first | apply Kd.R_alloc | apply Kd.R_drewN | apply Kd.R_drew)); exact Kd.R_mono (Kd.R_far (p := ⟨w.heap.size + 1, 0, none⟩) (Kd.R_types HO.out BK.out (by decide)) (fun _ hk => hk.2) (.slice Ao r.length co)) (fun _ hk => trivial), by repeat (first | (with_reducible first | exact B2.out | apply below_alloc | apply pw_below_drewN | apply below_drew1 | refine below_set ?_ (Nat.le_succ _)) | exact B2.out)⟩
end Go.Proofs.YtkgngggppcmpfaaGreat.L
end
section
namespace Go.Proofs.YtkgngggppcmpfaaGreat.L
open Go.RowKit Go.Proofs.YtkgngggppcmpfaaGreatW.PrintWords Go.Proofs.YtkgngggppcmpfaaGreatW.PrintLast Go.Proofs.YtkgngggppcmpfaaGreatW.PrintMore Go.Proofs.YtkgngggppcmpfaaGreat.X
attribute [local go_sem] max2_int min2_int max_two min_two max_three min_three max_four min_four
set_option linter.unusedVariables false
set_option linter.unusedSimpArgs false
def impl_Rectangle.f (k : Nat) (a0 : Int) (a1 : Int) : Option (List Int × Bool) := (impl_areSides.f a0 a1 10).bind fun t225 => (if t225 = true then ((impl_rectangle.f k a0 a1).bind fun t226 => (some (t226, true))) else (some (([] : List Int), false)))
theorem impl_Rectangle.mono : ∀ a0 a1 k, LeO (impl_Rectangle.f k a0 a1) (impl_Rectangle.f (k + 1) a0 a1) := by
  intro a0 a1 k
  unfold impl_Rectangle.f
  repeat' (with_reducible first | apply impl_rectangle.mono | exact LeO.refl _ | exact LeO.none _ | refine LeO.ite ?_ ?_ | refine LeO.bind ?_ (fun _ => ?_))
set_option maxHeartbeats 8000000 in
set_option maxRecDepth 100000 in
theorem impl_Rectangle.calls (k : Nat) (a0 : Int) (a1 : Int) (r1 : List Int) (r2 : Bool) (w : World) (h : impl_Rectangle.f k a0 a1 = some (r1, r2)) :
    Calls Tryz.prog 75 #[.int .i64 a0, .int .i64 a1] w fun e w' => ∃ v0_ : Value, e = .returned (.tuple #[.agg #[v0_], .bool r2]) ∧ Kd.R (Kd.int .i64) 3 w' w.heap.size (fun _ => True) v0_ r1 ∧ Below w.heap.size w w' := by
  have hu26 := Tryz.underlying26
  have HB := Aside0.mk (Below.refl w.heap.size w)
  have H : ((impl_areSides.f a0 a1 10).bind fun t225 => (if t225 = true then ((impl_rectangle.f k a0 a1).bind fun t226 => (some (t226, true))) else (some (([] : List Int), false)))) = some (r1, r2) := h
  clear h
  obtain ⟨t225, A3, H⟩ := bs H; (try dsimp only at H)
  by_cases c4 : t225 = true
  · subst c4
    rw [if_pos rfl] at H
    obtain ⟨t226, A5, H⟩ := bs H; (try dsimp only at H)
    simp only [Option.some.injEq, Prod.mk.injEq] at H
    obtain ⟨rfl, rfl⟩ := H
    go_enter Tryz.func75, Tryz.ntmps75
    go_wp2_with (first | (refine bE (N := 4) (cs := #[.slice none 0 0]) (t := 26) ?_; intro gb224 hg w6 hbox hb; have n0_ := Aside0.mk (below_step (uB HB) hb); have n1_ := Aside0.mk (hbox); have n2_ := Aside0.mk ((by rw [hg]; exact (below_size (uB HB)) : w.heap.size ≤ gb224)); have n3_ := Aside0.mk ((by rw [hg]; exact (below_size (uB HB)) : w.heap.size ≤ gb224)); clear HB; have HB := n0_; have BK224 := n1_; have GW224 := n2_; have GE224 := n3_; clear n0_ n1_ n2_ n3_; clear hb hbox hg) | (refine gA (some 8) Tryz.func206 #[.int .i64 a0, .int .i64 a1, .int .i64 10] ?_; (with_reducible refine (impl_areSides.calls a0 a1 10 true _ A3.out).mono ?_); rintro e w' ⟨rfl, ⟨nd, rfl⟩⟩; refine ⟨_, rfl, ?_⟩; (try (rw [drewN_self w6]; generalize hq_ : World.drewN w6 _ = w6; have n0_ : Aside0 (w6.heap[gb224]? = some (.cells #[.slice none 0 0] 26 (0, 0))) := ⟨by rw [← hq_]; exact (uK BK224)⟩; have n1_ : Aside0 (Below w.heap.size w w6) := ⟨by rw [← hq_]; exact (vB HB)⟩; clear BK224 HB hq_; have BK224 := n0_; have HB := n1_; clear n0_ n1_))) | (refine gA (some 13) Tryz.func229 #[.int .i64 a0, .int .i64 a1] ?_; (with_reducible refine (impl_rectangle.calls k a0 a1 t226 _ A5.out).mono ?_); rintro e w7 ⟨v227, rfl, ho0, hb⟩; refine ⟨_, rfl, ?_⟩; have n0_ := Aside0.mk (Kd.R_lower ho0 (below_size (vB HB))); have n1_ := Aside0.mk (blk_below (uK BK224) hb); have n2_ := Aside0.mk (below_step (vB HB) hb); clear BK224; clear HB; have HO228 := n0_; have BK224 := n1_; have HB := n2_; clear n0_ n1_ n2_; (try clear hb ho0); obtain ⟨Ao8, co8, eo8⟩ := Kd.R_slice HO228.out; subst eo8; have hcz9_0 := bC BK224; have hfz9_0 := blk_frozen BK224.out 0))
    refine bodyPost_ret (results_ct rfl _ _ gb224 26 #[.slice Ao8 t226.length co8] (0, 0) _ rfl bP Tryz.underlying26 rfl (by kernel_rfl)) rfl ?_
    exact ⟨_, by first | rfl | (simp [errW_none, errW_some] <;> rfl) | (simp [*, errW_none, errW_some] <;> rfl), by (with_reducible repeat (first | apply Kd.R_alloc | apply Kd.R_drewN | apply Kd.R_drew)); exact Kd.R_mono (Kd.R_far (p := ⟨gb224, 0, none⟩) (Kd.R_types HO228.out BK224.out (by decide)) (fun _ hk => hk.2) (.slice Ao8 t226.length co8)) (fun _ hk => trivial), (vB HB)⟩
  · replace c4 := Bool.eq_false_iff.mpr c4
    subst c4
    rw [if_neg (show ¬ (false = true) by decide)] at H
    simp only [Option.some.injEq, Prod.mk.injEq] at H
    obtain ⟨rfl, rfl⟩ := H
    go_enter Tryz.func75, Tryz.ntmps75
    go_wp2_with (first | (refine bE (N := 4) (cs := #[.slice none 0 0]) (t := 26) ?_; intro gb224 hg w10 hbox hb; have n0_ := Aside0.mk (below_step (uB HB) hb); have n1_ := Aside0.mk (hbox); have n2_ := Aside0.mk ((by rw [hg]; exact (below_size (uB HB)) : w.heap.size ≤ gb224)); have n3_ := Aside0.mk ((by rw [hg]; exact (below_size (uB HB)) : w.heap.size ≤ gb224)); clear HB; have HB := n0_; have BK224 := n1_; have GW224 := n2_; have GE224 := n3_; clear n0_ n1_ n2_ n3_; clear hb hbox hg) | (refine gA (some 8) Tryz.func206 #[.int .i64 a0, .int .i64 a1, .int .i64 10] ?_; (with_reducible refine (impl_areSides.calls a0 a1 10 false _ A3.out).mono ?_); rintro e w' ⟨rfl, ⟨nd, rfl⟩⟩; refine ⟨_, rfl, ?_⟩; (try (rw [drewN_self w10]; generalize hq_ : World.drewN w10 _ = w10; have n0_ : Aside0 (w10.heap[gb224]? = some (.cells #[.slice none 0 0] 26 (0, 0))) := ⟨by rw [← hq_]; exact (uK BK224)⟩; have n1_ : Aside0 (Below w.heap.size w w10) := ⟨by rw [← hq_]; exact (vB HB)⟩; clear BK224 HB hq_; have BK224 := n0_; have HB := n1_; clear n0_ n1_)); have hcz11_0 := bC BK224; have hfz11_0 := blk_frozen BK224.out 0))
    refine bodyPost_ret (results_ct rfl _ _ gb224 26 #[.slice none 0 0] (0, 0) _ rfl bP Tryz.underlying26 rfl (by kernel_rfl)) rfl ?_
    exact ⟨_, by first | rfl | (simp [errW_none, errW_some] <;> rfl) | (simp [*, errW_none, errW_some] <;> rfl), by first | exact Kd.R_nil _ _ _ _ _ | exact Kd.N_nil _ _ _ _ _ | exact Kd.V_nil _ _ _ _ _ | exact Kd.Q_nil _ _ _ _ _ | exact Kd.S_nil _ _ _ _ _, (vB HB)⟩
end Go.Proofs.YtkgngggppcmpfaaGreat.L
end
section
namespace Go.Proofs.YtkgngggppcmpfaaGreat.L
open Go.RowKit Go.Proofs.YtkgngggppcmpfaaGreatW.PrintWords Go.Proofs.YtkgngggppcmpfaaGreatW.PrintLast Go.Proofs.YtkgngggppcmpfaaGreatW.PrintMore
attribute [local go_sem] max2_int min2_int max_two min_two max_three min_three max_four min_four
set_option linter.unusedVariables false
set_option linter.unusedSimpArgs false
def bits_OnesCount64.f (a0 : Int) : Option (Int) := some (Go.bits .and .i64 (wrap64 (IntKind.u64.wrap ((IntKind.u64.wrap ((IntKind.u64.wrap ((Go.bits .and .u64 (IntKind.u64.wrap (((IntKind.u64.wrap ((Go.bits .and .u64 ((IntKind.u64.wrap ((Go.bits .and .u64 (a0 / 2) 6148914691236517205) + (Go.bits .and .u64 a0 6148914691236517205))) / 4) 3689348814741910323) + (Go.bits .and .u64 (IntKind.u64.wrap ((Go.bits .and .u64 (a0 / 2) 6148914691236517205) + (Go.bits .and .u64 a0 6148914691236517205))) 3689348814741910323))) / 16) + (IntKind.u64.wrap ((Go.bits .and .u64 ((IntKind.u64.wrap ((Go.bits .and .u64 (a0 / 2) 6148914691236517205) + (Go.bits .and .u64 a0 6148914691236517205))) / 4) 3689348814741910323) + (Go.bits .and .u64 (IntKind.u64.wrap ((Go.bits .and .u64 (a0 / 2) 6148914691236517205) + (Go.bits .and .u64 a0 6148914691236517205))) 3689348814741910323))))) 1085102592571150095) + ((Go.bits .and .u64 (IntKind.u64.wrap (((IntKind.u64.wrap ((Go.bits .and .u64 ((IntKind.u64.wrap ((Go.bits .and .u64 (a0 / 2) 6148914691236517205) + (Go.bits .and .u64 a0 6148914691236517205))) / 4) 3689348814741910323) + (Go.bits .and .u64 (IntKind.u64.wrap ((Go.bits .and .u64 (a0 / 2) 6148914691236517205) + (Go.bits .and .u64 a0 6148914691236517205))) 3689348814741910323))) / 16) + (IntKind.u64.wrap ((Go.bits .and .u64 ((IntKind.u64.wrap ((Go.bits .and .u64 (a0 / 2) 6148914691236517205) + (Go.bits .and .u64 a0 6148914691236517205))) / 4) 3689348814741910323) + (Go.bits .and .u64 (IntKind.u64.wrap ((Go.bits .and .u64 (a0 / 2) 6148914691236517205) + (Go.bits .and .u64 a0 6148914691236517205))) 3689348814741910323))))) 1085102592571150095) / 256))) + ((IntKind.u64.wrap ((Go.bits .and .u64 (IntKind.u64.wrap (((IntKind.u64.wrap ((Go.bits .and .u64 ((IntKind.u64.wrap ((Go.bits .and .u64 (a0 / 2) 6148914691236517205) + (Go.bits .and .u64 a0 6148914691236517205))) / 4) 3689348814741910323) + (Go.bits .and .u64 (IntKind.u64.wrap ((Go.bits .and .u64 (a0 / 2) 6148914691236517205) + (Go.bits .and .u64 a0 6148914691236517205))) 3689348814741910323))) / 16) + (IntKind.u64.wrap ((Go.bits .and .u64 ((IntKind.u64.wrap ((Go.bits .and .u64 (a0 / 2) 6148914691236517205) + (Go.bits .and .u64 a0 6148914691236517205))) / 4) 3689348814741910323) + (Go.bits .and .u64 (IntKind.u64.wrap ((Go.bits .and .u64 (a0 / 2) 6148914691236517205) + (Go.bits .and .u64 a0 6148914691236517205))) 3689348814741910323))))) 1085102592571150095) + ((Go.bits .and .u64 (IntKind.u64.wrap (((IntKind.u64.wrap ((Go.bits .and .u64 ((IntKind.u64.wrap ((Go.bits .and .u64 (a0 / 2) 6148914691236517205) + (Go.bits .and .u64 a0 6148914691236517205))) / 4) 3689348814741910323) + (Go.bits .and .u64 (IntKind.u64.wrap ((Go.bits .and .u64 (a0 / 2) 6148914691236517205) + (Go.bits .and .u64 a0 6148914691236517205))) 3689348814741910323))) / 16) + (IntKind.u64.wrap ((Go.bits .and .u64 ((IntKind.u64.wrap ((Go.bits .and .u64 (a0 / 2) 6148914691236517205) + (Go.bits .and .u64 a0 6148914691236517205))) / 4) 3689348814741910323) + (Go.bits .and .u64 (IntKind.u64.wrap ((Go.bits .and .u64 (a0 / 2) 6148914691236517205) + (Go.bits .and .u64 a0 6148914691236517205))) 3689348814741910323))))) 1085102592571150095) / 256))) / 65536))) + ((IntKind.u64.wrap ((IntKind.u64.wrap ((Go.bits .and .u64 (IntKind.u64.wrap (((IntKind.u64.wrap ((Go.bits .and .u64 ((IntKind.u64.wrap ((Go.bits .and .u64 (a0 / 2) 6148914691236517205) + (Go.bits .and .u64 a0 6148914691236517205))) / 4) 3689348814741910323) + (Go.bits .and .u64 (IntKind.u64.wrap ((Go.bits .and .u64 (a0 / 2) 6148914691236517205) + (Go.bits .and .u64 a0 6148914691236517205))) 3689348814741910323))) / 16) + (IntKind.u64.wrap ((Go.bits .and .u64 ((IntKind.u64.wrap ((Go.bits .and .u64 (a0 / 2) 6148914691236517205) + (Go.bits .and .u64 a0 6148914691236517205))) / 4) 3689348814741910323) + (Go.bits .and .u64 (IntKind.u64.wrap ((Go.bits .and .u64 (a0 / 2) 6148914691236517205) + (Go.bits .and .u64 a0 6148914691236517205))) 3689348814741910323))))) 1085102592571150095) + ((Go.bits .and .u64 (IntKind.u64.wrap (((IntKind.u64.wrap ((Go.bits .and .u64 ((IntKind.u64.wrap ((Go.bits .and .u64 (a0 / 2) 6148914691236517205) + (Go.bits .and .u64 a0 6148914691236517205))) / 4) 3689348814741910323) + (Go.bits .and .u64 (IntKind.u64.wrap ((Go.bits .and .u64 (a0 / 2) 6148914691236517205) + (Go.bits .and .u64 a0 6148914691236517205))) 3689348814741910323))) / 16) + (IntKind.u64.wrap ((Go.bits .and .u64 ((IntKind.u64.wrap ((Go.bits .and .u64 (a0 / 2) 6148914691236517205) + (Go.bits .and .u64 a0 6148914691236517205))) / 4) 3689348814741910323) + (Go.bits .and .u64 (IntKind.u64.wrap ((Go.bits .and .u64 (a0 / 2) 6148914691236517205) + (Go.bits .and .u64 a0 6148914691236517205))) 3689348814741910323))))) 1085102592571150095) / 256))) + ((IntKind.u64.wrap ((Go.bits .and .u64 (IntKind.u64.wrap (((IntKind.u64.wrap ((Go.bits .and .u64 ((IntKind.u64.wrap ((Go.bits .and .u64 (a0 / 2) 6148914691236517205) + (Go.bits .and .u64 a0 6148914691236517205))) / 4) 3689348814741910323) + (Go.bits .and .u64 (IntKind.u64.wrap ((Go.bits .and .u64 (a0 / 2) 6148914691236517205) + (Go.bits .and .u64 a0 6148914691236517205))) 3689348814741910323))) / 16) + (IntKind.u64.wrap ((Go.bits .and .u64 ((IntKind.u64.wrap ((Go.bits .and .u64 (a0 / 2) 6148914691236517205) + (Go.bits .and .u64 a0 6148914691236517205))) / 4) 3689348814741910323) + (Go.bits .and .u64 (IntKind.u64.wrap ((Go.bits .and .u64 (a0 / 2) 6148914691236517205) + (Go.bits .and .u64 a0 6148914691236517205))) 3689348814741910323))))) 1085102592571150095) + ((Go.bits .and .u64 (IntKind.u64.wrap (((IntKind.u64.wrap ((Go.bits .and .u64 ((IntKind.u64.wrap ((Go.bits .and .u64 (a0 / 2) 6148914691236517205) + (Go.bits .and .u64 a0 6148914691236517205))) / 4) 3689348814741910323) + (Go.bits .and .u64 (IntKind.u64.wrap ((Go.bits .and .u64 (a0 / 2) 6148914691236517205) + (Go.bits .and .u64 a0 6148914691236517205))) 3689348814741910323))) / 16) + (IntKind.u64.wrap ((Go.bits .and .u64 ((IntKind.u64.wrap ((Go.bits .and .u64 (a0 / 2) 6148914691236517205) + (Go.bits .and .u64 a0 6148914691236517205))) / 4) 3689348814741910323) + (Go.bits .and .u64 (IntKind.u64.wrap ((Go.bits .and .u64 (a0 / 2) 6148914691236517205) + (Go.bits .and .u64 a0 6148914691236517205))) 3689348814741910323))))) 1085102592571150095) / 256))) / 65536))) / 4294967296)))) 127)
set_option maxHeartbeats 8000000 in
set_option maxRecDepth 100000 in
theorem bits_OnesCount64.calls (a0 : Int) (r : Int) (w : World) (h : bits_OnesCount64.f a0 = some r) :
    Calls Tryz.prog 341 #[.int .u64 a0] w fun e w' => e = .returned (.int .i64 r) ∧ Drawn0 w w' := by
  have H : (some (Go.bits .and .i64 (wrap64 (IntKind.u64.wrap ((IntKind.u64.wrap ((IntKind.u64.wrap ((Go.bits .and .u64 (IntKind.u64.wrap (((IntKind.u64.wrap ((Go.bits .and .u64 ((IntKind.u64.wrap ((Go.bits .and .u64 (a0 / 2) 6148914691236517205) + (Go.bits .and .u64 a0 6148914691236517205))) / 4) 3689348814741910323) + (Go.bits .and .u64 (IntKind.u64.wrap ((Go.bits .and .u64 (a0 / 2) 6148914691236517205) + (Go.bits .and .u64 a0 6148914691236517205))) 3689348814741910323))) / 16) + (IntKind.u64.wrap ((Go.bits .and .u64 ((IntKind.u64.wrap ((Go.bits .and .u64 (a0 / 2) 6148914691236517205) + (Go.bits .and .u64 a0 6148914691236517205))) / 4) 3689348814741910323) + (Go.bits .and .u64 (IntKind.u64.wrap ((Go.bits .and .u64 (a0 / 2) 6148914691236517205) + (Go.bits .and .u64 a0 6148914691236517205))) 3689348814741910323))))) 1085102592571150095) + ((Go.bits .and .u64 (IntKind.u64.wrap (((IntKind.u64.wrap ((Go.bits .and .u64 ((IntKind.u64.wrap ((Go.bits .and .u64 (a0 / 2) 6148914691236517205) + (Go.bits .and .u64 a0 6148914691236517205))) / 4) 3689348814741910323) + (Go.bits .and .u64 (IntKind.u64.wrap ((Go.bits .and .u64 (a0 / 2) 6148914691236517205) + (Go.bits .and .u64 a0 6148914691236517205))) 3689348814741910323))) / 16) + (IntKind.u64.wrap ((Go.bits .and .u64 ((IntKind.u64.wrap ((Go.bits .and .u64 (a0 / 2) 6148914691236517205) + (Go.bits .and .u64 a0 6148914691236517205))) / 4) 3689348814741910323) + (Go.bits .and .u64 (IntKind.u64.wrap ((Go.bits .and .u64 (a0 / 2) 6148914691236517205) + (Go.bits .and .u64 a0 6148914691236517205))) 3689348814741910323))))) 1085102592571150095) / 256))) + ((IntKind.u64.wrap ((Go.bits .and .u64 (IntKind.u64.wrap (((IntKind.u64.wrap ((Go.bits .and .u64 ((IntKind.u64.wrap ((Go.bits .and .u64 (a0 / 2) 6148914691236517205) + (Go.bits .and .u64 a0 6148914691236517205))) / 4) 3689348814741910323) + (Go.bits .and .u64 (IntKind.u64.wrap ((Go.bits .and .u64 (a0 / 2) 6148914691236517205) + (Go.bits .and .u64 a0 6148914691236517205))) 3689348814741910323))) / 16) + (IntKind.u64.wrap ((Go.bits .and .u64 ((IntKind.u64.wrap ((Go.bits .and .u64 (a0 / 2) 6148914691236517205) + (Go.bits .and .u64 a0 6148914691236517205))) / 4) 3689348814741910323) + (Go.bits .and .u64 (IntKind.u64.wrap ((Go.bits .and .u64 (a0 / 2) 6148914691236517205) + (Go.bits .and .u64 a0 6148914691236517205))) 3689348814741910323))))) 1085102592571150095) + ((Go.bits .and .u64 (IntKind.u64.wrap (((IntKind.u64.wrap ((Go.bits .and .u64 ((IntKind.u64.wrap ((Go.bits .and .u64 (a0 / 2) 6148914691236517205) + (Go.bits .and .u64 a0 6148914691236517205))) / 4) 3689348814741910323) + (Go.bits .and .u64 (IntKind.u64.wrap ((Go.bits .and .u64 (a0 / 2) 6148914691236517205) + (Go.bits .and .u64 a0 6148914691236517205))) 3689348814741910323))) / 16) + (IntKind.u64.wrap ((Go.bits .and .u64 ((IntKind.u64.wrap ((Go.bits .and .u64 (a0 / 2) 6148914691236517205) + (Go.bits .and .u64 a0 6148914691236517205))) / 4) 3689348814741910323) + (Go.bits .and .u64 (IntKind.u64.wrap ((Go.bits .and .u64 (a0 / 2) 6148914691236517205) + (Go.bits .and .u64 a0 6148914691236517205))) 3689348814741910323))))) 1085102592571150095) / 256))) / 65536))) + ((IntKind.u64.wrap ((IntKind.u64.wrap ((Go.bits .and .u64 (IntKind.u64.wrap (((IntKind.u64.wrap ((Go.bits .and .u64 ((IntKind.u64.wrap ((Go.bits .and .u64 (a0 / 2) 6148914691236517205) + (Go.bits .and .u64 a0 6148914691236517205))) / 4) 3689348814741910323) + (Go.bits .and .u64 (IntKind.u64.wrap ((Go.bits .and .u64 (a0 / 2) 6148914691236517205) + (Go.bits .and .u64 a0 6148914691236517205))) 3689348814741910323))) / 16) + (IntKind.u64.wrap ((Go.bits .and .u64 ((IntKind.u64.wrap ((Go.bits .and .u64 (a0 / 2) 6148914691236517205) + (Go.bits .and .u64 a0 6148914691236517205))) / 4) 3689348814741910323) + (Go.bits .and .u64 (IntKind.u64.wrap ((Go.bits .and .u64 (a0 / 2) 6148914691236517205) + (Go.bits .and .u64 a0 6148914691236517205))) 3689348814741910323))))) 1085102592571150095) + ((Go.bits .and .u64 (IntKind.u64.wrap (((IntKind.u64.wrap ((Go.bits .and .u64 ((IntKind.u64.wrap ((Go.bits .and .u64 (a0 / 2) 6148914691236517205) + (Go.bits .and .u64 a0 6148914691236517205))) / 4) 3689348814741910323) + (Go.bits .and .u64 (IntKind.u64.wrap ((Go.bits .and .u64 (a0 / 2) 6148914691236517205) + (Go.bits .and .u64 a0 6148914691236517205))) 3689348814741910323))) / 16) + (IntKind.u64.wrap ((Go.bits .and .u64 ((IntKind.u64.wrap ((Go.bits .and .u64 (a0 / 2) 6148914691236517205) + (Go.bits .and .u64 a0 6148914691236517205))) / 4) 3689348814741910323) + (Go.bits .and .u64 (IntKind.u64.wrap ((Go.bits .and .u64 (a0 / 2) 6148914691236517205) + (Go.bits .and .u64 a0 6148914691236517205))) 3689348814741910323))))) 1085102592571150095) / 256))) + ((IntKind.u64.wrap ((Go.bits .and .u64 (IntKind.u64.wrap (((IntKind.u64.wrap ((Go.bits .and .u64 ((IntKind.u64.wrap ((Go.bits .and .u64 (a0 / 2) 6148914691236517205) + (Go.bits .and .u64 a0 6148914691236517205))) / 4) 3689348814741910323) + (Go.bits .and .u64 (IntKind.u64.wrap ((Go.bits .and .u64 (a0 / 2) 6148914691236517205) + (Go.bits .and .u64 a0 6148914691236517205))) 3689348814741910323))) / 16) + (IntKind.u64.wrap ((Go.bits .and .u64 ((IntKind.u64.wrap ((Go.bits .and .u64 (a0 / 2) 6148914691236517205) + (Go.bits .and .u64 a0 6148914691236517205))) / 4) 3689348814741910323) + (Go.bits .and .u64 (IntKind.u64.wrap ((Go.bits .and .u64 (a0 / 2) 6148914691236517205) + (Go.bits .and .u64 a0 6148914691236517205))) 3689348814741910323))))) 1085102592571150095) + ((Go.bits .and .u64 (IntKind.u64.wrap (((IntKind.u64.wrap ((Go.bits .and .u64 ((IntKind.u64.wrap ((Go.bits .and .u64 (a0 / 2) 6148914691236517205) + (Go.bits .and .u64 a0 6148914691236517205))) / 4) 3689348814741910323) + (Go.bits .and .u64 (IntKind.u64.wrap ((Go.bits .and .u64 (a0 / 2) 6148914691236517205) + (Go.bits .and .u64 a0 6148914691236517205))) 3689348814741910323))) / 16) + (IntKind.u64.wrap ((Go.bits .and .u64 ((IntKind.u64.wrap ((Go.bits .and .u64 (a0 / 2) 6148914691236517205) + (Go.bits .and .u64 a0 6148914691236517205))) / 4) 3689348814741910323) + (Go.bits .and .u64 (IntKind.u64.wrap ((Go.bits .and .u64 (a0 / 2) 6148914691236517205) + (Go.bits .and .u64 a0 6148914691236517205))) 3689348814741910323))))) 1085102592571150095) / 256))) / 65536))) / 4294967296)))) 127)) = some r := h
  clear h
  obtain rfl := Option.some.inj H
  go_enter Tryz.func341, Tryz.ntmps341
  go_wp2
  go_ret
  exact ⟨by first | rfl | (simp; done) | (simp [*]; done), by repeat (first | exact Drawn0.refl _ | apply Drawn0.step)⟩
end Go.Proofs.YtkgngggppcmpfaaGreat.L
end
section
namespace Go.Proofs.YtkgngggppcmpfaaGreat.L
open Go.RowKit Go.Proofs.YtkgngggppcmpfaaGreatW.PrintWords Go.Proofs.YtkgngggppcmpfaaGreatW.PrintLast Go.Proofs.YtkgngggppcmpfaaGreatW.PrintMore Go.Proofs.YtkgngggppcmpfaaGreat.X
attribute [local go_sem] max2_int min2_int max_two min_two max_three min_three max_four min_four
set_option linter.unusedVariables false
set_option linter.unusedSimpArgs false
def bits_OnesCount.f (a0 : Int) : Option (Int) := (bits_OnesCount64.f a0).bind fun t229 => (some t229)
set_option maxHeartbeats 8000000 in
set_option maxRecDepth 100000 in
theorem bits_OnesCount.calls (a0 : Int) (r : Int) (w : World) (h : bits_OnesCount.f a0 = some r) :
    Calls Tryz.prog 300 #[.int .u64 a0] w fun e w' => e = .returned (.int .i64 r) ∧ Drawn0 w w' := by
  have H : ((bits_OnesCount64.f a0).bind fun t229 => (some t229)) = some r := h
  clear h
  obtain ⟨t229, A2, H⟩ := bs H; (try dsimp only at H)
  obtain rfl := Option.some.inj H
  go_enter Tryz.func300, Tryz.ntmps300
  go_wp2_with (first | (refine gA (some 7) Tryz.func341 #[.int .u64 a0] ?_; (with_reducible refine (bits_OnesCount64.calls a0 t229 _ A2.out).mono ?_); rintro e w' ⟨rfl, ⟨nd, rfl⟩⟩; refine ⟨_, rfl, ?_⟩))
  go_ret
  exact ⟨by first | rfl | (simp; done) | (simp [*]; done), by repeat (first | exact Drawn0.refl _ | apply Drawn0.step)⟩
def impl_size.f (a0 : Int) : Option (Int) := (bits_OnesCount.f (IntKind.u64.wrap (a0))).bind fun t230 => (some t230)
set_option maxHeartbeats 8000000 in
set_option maxRecDepth 100000 in
theorem impl_size.calls (a0 : Int) (r : Int) (w : World) (h : impl_size.f a0 = some r) :
    Calls Tryz.prog 198 #[.int .i64 a0] w fun e w' => e = .returned (.int .i64 r) ∧ Drawn0 w w' := by
  have H : ((bits_OnesCount.f (IntKind.u64.wrap (a0))).bind fun t230 => (some t230)) = some r := h
  clear h
  obtain ⟨t230, A2, H⟩ := bs H; (try dsimp only at H)
  obtain rfl := Option.some.inj H
  go_enter Tryz.func198, Tryz.ntmps198
  go_wp2_with (first | (refine gA (some 5) Tryz.func300 #[.int .u64 (IntKind.u64.wrap (a0))] ?_; (with_reducible refine (bits_OnesCount.calls (IntKind.u64.wrap (a0)) t230 _ A2.out).mono ?_); rintro e w' ⟨rfl, ⟨nd, rfl⟩⟩; refine ⟨_, rfl, ?_⟩))
  go_ret
  exact ⟨by first | rfl | (simp; done) | (simp [*]; done), by repeat (first | exact Drawn0.refl _ | apply Drawn0.step)⟩
def impl_GaussOf.l0 : Nat → List Int → List Int → Int → Int → Option (List Int × Bool)
  | 0, _, _, _, _ => none
  | k + 1, x8, x25, x26, x27 => if x27 < x26 then (if 0 ≤ x27 then (if x27 < (x25.length : Int) then ((impl_size.f (rd x25 x27)).bind fun t243 => (if 0 ≤ t243 then (if t243 < (x8.length : Int) then (impl_GaussOf.l0 k (x8.set (t243 : Int).toNat (wrap64 ((rd x8 t243) + 1))) x25 x26 (wrap64 (x27 + 1))) else (none)) else (none))) else (none)) else (none)) else (some (x8, true))
def impl_GaussOf.f (k : Nat) (a0 : Int) (a1 : Int) : Option (List Int × Bool) := (impl_Rectangle.f k a0 a1).bind fun bt231 => (if bt231.2 = true then (if 0 ≤ (wrap64 ((wrap64 (a0 * a1)) + 1)) then (if (wrap64 ((wrap64 (a0 * a1)) + 1) : Int).toNat ≤ 35184372088832 then ((impl_Poset_ideals.f k bt231.1).bind fun t239 => (impl_GaussOf.l0 k (List.replicate (wrap64 ((wrap64 (a0 * a1)) + 1) : Int).toNat 0) t239 (t239.length : Int) 0)) else (none)) else (none)) else (some (([] : List Int), false)))
theorem impl_GaussOf.mono_l : ∀ k, (∀ y0 y1 y2 y3, LeO (impl_GaussOf.l0 k y0 y1 y2 y3) (impl_GaussOf.l0 (k + 1) y0 y1 y2 y3))
  | 0 => fun _ _ _ _ r h => by simp [impl_GaussOf.l0] at h
  | k + 1 => by
    have ih0 := impl_GaussOf.mono_l k
    · intro y0 y1 y2 y3
      unfold impl_GaussOf.l0
      repeat' first
      | (with_reducible exact ih0 _ _ _ _)
      | (with_reducible exact impl_Poset_ideals.mono _ _)
      | (with_reducible exact impl_Rectangle.mono _ _ _)
      | (with_reducible exact LeO.refl _)
      | (with_reducible exact LeO.none _)
      | (with_reducible refine LeO.ite ?_ ?_)
      | (with_reducible refine LeO.bind ?_ (fun _ => ?_))
      | exact ih0 _ _ _ _
      | exact impl_Poset_ideals.mono _ _
      | exact impl_Rectangle.mono _ _ _
      | exact LeO.none _
      | refine LeO.ite ?_ ?_
      | refine LeO.bind ?_ (fun _ => ?_)
theorem impl_GaussOf.mono : ∀ a0 a1 k, LeO (impl_GaussOf.f k a0 a1) (impl_GaussOf.f (k + 1) a0 a1) := by
  intro a0 a1 k
  have ih0 := impl_GaussOf.mono_l k
  unfold impl_GaussOf.f
  repeat' (with_reducible first | apply ih0 | apply impl_Poset_ideals.mono | apply impl_Rectangle.mono | exact LeO.refl _ | exact LeO.none _ | refine LeO.ite ?_ ?_ | refine LeO.bind ?_ (fun _ => ?_))
set_option maxHeartbeats 8000000 in
set_option maxRecDepth 100000 in
theorem impl_GaussOf.calls (k : Nat) (a0 : Int) (a1 : Int) (r1 : List Int) (r2 : Bool) (w : World) (h : impl_GaussOf.f k a0 a1 = some (r1, r2)) :
    Calls Tryz.prog 60 #[.int .i64 a0, .int .i64 a1] w fun e w' => ∃ v0_ : Value, e = .returned (.tuple #[v0_, .bool r2]) ∧ Kd.R (Kd.int .i64) 3 w' w.heap.size (fun _ => True) v0_ r1 ∧ Below w.heap.size w w' := by
  have hu26 := Tryz.underlying26
  have HB := Aside0.mk (Below.refl w.heap.size w)
  have H : ((impl_Rectangle.f k a0 a1).bind fun bt231 => (if bt231.2 = true then (if 0 ≤ (wrap64 ((wrap64 (a0 * a1)) + 1)) then (if (wrap64 ((wrap64 (a0 * a1)) + 1) : Int).toNat ≤ 35184372088832 then ((impl_Poset_ideals.f k bt231.1).bind fun t239 => (impl_GaussOf.l0 k (List.replicate (wrap64 ((wrap64 (a0 * a1)) + 1) : Int).toNat 0) t239 (t239.length : Int) 0)) else (none)) else (none)) else (some (([] : List Int), false)))) = some (r1, r2) := h
  clear h
  obtain ⟨⟨t231, t234⟩, A3, H⟩ := bs H; (try dsimp only at H)
  by_cases c4 : t234 = true
  · subst c4
    rw [if_pos rfl] at H
    obtain ⟨ji5, hji5⟩ : ∃ j_ : Int, (wrap64 ((wrap64 (a0 * a1)) + 1)) = j_ := ⟨_, rfl⟩
    replace H : (if 0 ≤ (ji5) then (if (ji5 : Int).toNat ≤ 35184372088832 then ((impl_Poset_ideals.f k t231).bind fun t239 => (impl_GaussOf.l0 k (List.replicate (ji5 : Int).toNat 0) t239 (t239.length : Int) 0)) else (none)) else (none)) = some (r1, r2) := by first | (rw [hji5] at H; exact H) | (simp only [hji5] at H ⊢; exact H)
    (try rw [hji5] at A3)
    have hji5w : (IntKind.i64.wrap ((wrap64 (a0 * a1)) + 1)) = ji5 := (i64_w _).trans hji5
    by_cases c6 : 0 ≤ (ji5)
    · rw [if_pos c6] at H
      have c6b0 := eq_true c6
      have c6b1 := decide_eq_true c6
      clear c6
      by_cases c7 : (ji5 : Int).toNat ≤ 35184372088832
      · rw [if_pos c7] at H
        have c7b0 := eq_true c7
        have c7b1 := decide_eq_true c7
        clear c7
        obtain ⟨y236, hy236⟩ : ∃ y_ : List Int, y_ = (List.replicate (ji5 : Int).toNat 0) := ⟨_, rfl⟩
        replace H : ((impl_Poset_ideals.f k t231).bind fun t239 => (impl_GaussOf.l0 k y236 t239 (t239.length : Int) 0)) = some (r1, r2) := by first | (rw [hy236]; with_reducible exact H) | (have H2_ := (Option.bind_some _ _).symm.trans H; rw [hy236]; with_reducible exact H2_) | (have H2_ := (Option.bind_some _ _).symm.trans H; with_reducible exact H2_) | with_reducible exact H | (rw [hy236]; exact H) | exact H
        have Ny236 := Aside0.mk hy236
        clear hy236
        obtain ⟨t239, A8, H⟩ := bs H; (try dsimp only at H)
        have H' := Aside0.mk H
        clear H
        go_enter Tryz.func60, Tryz.ntmps60
        go_wp2_with (first | (refine gA (some 14) Tryz.func75 #[.int .i64 a0, .int .i64 a1] ?_; (with_reducible refine (impl_Rectangle.calls k a0 a1 t231 true _ A3.out).mono ?_); rintro e w9 ⟨v232, rfl, ho0, hb⟩; refine ⟨_, rfl, ?_⟩; have n0_ := Aside0.mk (Kd.R_lower ho0 (below_size (uB HB))); have n1_ := Aside0.mk (below_step (uB HB) hb); clear HB; have HO233 := n0_; have HB := n1_; clear n0_ n1_; (try clear hb ho0)) | (refine bE (N := 6) (cs := #[.slice none 0 0]) (t := 26) ?_; intro gb235 hg w10 hbox hb; have n0_ := Aside0.mk (Kd.R_below (uR HO233) hb); have n1_ := Aside0.mk (below_step (uB HB) hb); have n2_ := Aside0.mk (hbox); have n3_ := Aside0.mk ((by rw [hg]; exact (below_size (uB HB)) : w.heap.size ≤ gb235)); have n4_ := Aside0.mk ((by rw [hg]; exact (below_size (uB HB)) : w.heap.size ≤ gb235)); clear HO233; clear HB; have HO233 := n0_; have HB := n1_; have BK235 := n2_; have GW235 := n3_; have GE235 := n4_; clear n0_ n1_ n2_ n3_ n4_; clear hb hbox hg; obtain ⟨Ao11, co11, eo11⟩ := Kd.R_slice HO233.out; subst eo11; have hcz12_0 := bC BK235; have hfz12_0 := blk_frozen BK235.out 0) | ((with_reducible refine gate_dst (N := 23) rfl ?_); refine Kd.R_make (Kd.int .i64) _ 3 rfl (N := 23) rfl 24 _ _ rfl ji5 rfl rfl Tryz.underlying24 (.int .i64 0) 8 info3 rfl (by decide) (by omega) 0 (ok := fun _ => True) (okp := fun _ => True) rfl (fun _ hk => hk) trivial (of_decide_eq_true (by first | (with_reducible assumption) | assumption)) (Nat.le_trans (Nat.mul_le_mul_right _ (of_decide_eq_true (by first | (with_reducible assumption) | assumption) : ji5.toNat ≤ 35184372088832)) (by omega)) (Below.refl _ _) (Nat.le_refl _) ?_; intro v237 w13 ho14 hb hg_ hnew_; clear hg_ hnew_; (first | rw [← Ny236.out] at ho14 | (simp only [Int.reduceToNat] at ho14; rw [← Ny236.out] at ho14)); have n0_ := Aside0.mk (Kd.R_elder' (rF HO233 BK235 (.slice Ao11 t231.length co11)) (Kd.R_base ho14) hb); have n1_ := Aside0.mk (Kd.R_lower (Kd.R_new' ho14 (Kd.R_lt (rF HO233 BK235 (.slice Ao11 t231.length co11)))) (below_size (vB HB))); have n2_ := Aside0.mk (blk_below (g := gb235) (o := .cells #[.slice Ao11 t231.length co11] 26 (0, 0)) bP hb); have n3_ := Aside0.mk (below_step (vB HB) hb); clear HO233; clear BK235; clear HB; have HO233 := n0_; have HO238 := n1_; have BK235 := n2_; have HB := n3_; clear n0_ n1_ n2_ n3_; clear hb ho14; have hcz15_0 := bC BK235; have hfz15_0 := blk_frozen BK235.out 0) | (refine gA (some 25) Tryz.func169 #[.agg #[.slice Ao11 t231.length co11]] ?_; (with_reducible refine (impl_Poset_ideals.calls k _ _ t231 t239 _ (uE HO233) ?side2 A8.out).mono ?_); (case side2 => exact (Kd.R_reads' HO233.out).2.1); rintro e w16 ⟨v240, rfl, ho0, hb⟩; refine ⟨_, rfl, ?_⟩; have n0_ := Aside0.mk (Kd.R_elder' (uR HO233) (Kd.R_base ho0) hb); have n1_ := Aside0.mk (Kd.R_elder' (uR HO238) (Kd.R_base ho0) hb); have n2_ := Aside0.mk (Kd.R_lower (Kd.R_new' (Kd.R_new' ho0 (Kd.R_lt (uR HO233))) (Kd.R_lt (uR HO238))) (below_size (vB HB))); have n3_ := Aside0.mk (blk_below (uK BK235) hb); have n4_ := Aside0.mk (below_step (vB HB) hb); clear HO233; clear HO238; clear BK235; clear HB; have HO233 := n0_; have HO238 := n1_; have HO241 := n2_; have BK235 := n3_; have HB := n4_; clear n0_ n1_ n2_ n3_ n4_; (try clear hb ho0); obtain ⟨Ao17, co17, eo17⟩ := Kd.R_slice HO241.out; subst eo17))
        go_loopg [27] k (fun kq v27 w' => ∃ (x8_1 : List Int) (x27_1 : Int), v27 = .int .i64 x27_1 ∧ Aside0 (impl_GaussOf.l0 kq x8_1 t239 (t239.length : Int) x27_1 = some (r1, r2)) ∧ Aside0 (kq ≤ k) ∧ Aside0 (Kd.R (Kd.int .i64) 3 w' w.heap.size (fun k_ => some k_ ≠ ((.slice Ao17 t239.length co17) : Value).ownBlock ∧ some k_ ≠ ((.slice Ao11 t231.length co11) : Value).ownBlock) v237 x8_1) ∧ Aside0 (Kd.R (Kd.int .i64) 3 w' w.heap.size (fun k_ => some k_ ≠ (v237 : Value).ownBlock ∧ some k_ ≠ ((.slice Ao11 t231.length co11) : Value).ownBlock) (.slice Ao17 t239.length co17) t239) ∧ Aside0 (Kd.R (Kd.int .i64) 3 w' w.heap.size (fun k_ => some k_ ≠ (v237 : Value).ownBlock ∧ some k_ ≠ ((.slice Ao17 t239.length co17) : Value).ownBlock) (.slice Ao11 t231.length co11) t231) ∧ Aside0 (w'.heap[gb235]? = some (.cells #[(.slice Ao11 t231.length co11)] 26 (0, 0))) ∧ Aside0 (Below w.heap.size w w'))
        case atStart => exact ⟨(y236), (0), (by first | rfl | (simp; done) | (simp [*]; done)), H', ⟨Nat.le_refl _⟩, ⟨Kd.R_mono (uR HO238) (fun _ hk => ⟨hk.2, hk.1.2⟩)⟩, ⟨Kd.R_mono (uR HO241) (fun _ hk => ⟨hk.2, hk.1.2⟩)⟩, ⟨Kd.R_mono (uR HO233) (fun _ hk => ⟨hk.1.2, hk.2⟩)⟩, ⟨uK BK235⟩, ⟨(vB HB)⟩⟩
        case round =>
          clear H'
          try clear c6b0 c6b1 c7b0 c7b1 hcz12_0 hcz15_0 hfz12_0 hfz15_0
          obtain ⟨x8_1, x27_1, rfl, HA, HK1, HO_8, HO_25, HO_236000, BK235, HB⟩ := hrel
          cases gk with
          | zero => exact absurd HA.out (by simp [impl_GaussOf.l0])
          | succ k1 =>
            have H := HA.out
            clear HA
            simp only [impl_GaussOf.l0] at H
            by_cases c18 : x27_1 < (t239.length : Int)
            · rw [if_pos c18] at H
              have c18b0 := decide_eq_true c18
              clear c18
              by_cases c19 : 0 ≤ x27_1
              · rw [if_pos c19] at H
                have c19b0 := decide_eq_true c19
                clear c19
                by_cases c20 : x27_1 < (t239.length : Int)
                · rw [if_pos c20] at H
                  have c20b0 := decide_eq_true c20
                  clear c20
                  obtain ⟨t243, A21, H⟩ := bs H; (try dsimp only at H)
                  by_cases c22 : 0 ≤ t243
                  · rw [if_pos c22] at H
                    have c22b0 := decide_eq_true c22
                    clear c22
                    by_cases c23 : t243 < (x8_1.length : Int)
                    · rw [if_pos c23] at H
                      have c23b0 := decide_eq_true c23
                      clear c23
                      obtain ⟨y245, hy245⟩ : ∃ y_ : List Int, y_ = (x8_1.set (t243 : Int).toNat (wrap64 ((rd x8_1 t243) + 1))) := ⟨_, rfl⟩
                      replace H : (impl_GaussOf.l0 k1 y245 t239 (t239.length : Int) (wrap64 (x27_1 + 1))) = some (r1, r2) := by first | (rw [hy245]; with_reducible exact H) | (have H2_ := (Option.bind_some _ _).symm.trans H; rw [hy245]; with_reducible exact H2_) | (have H2_ := (Option.bind_some _ _).symm.trans H; with_reducible exact H2_) | with_reducible exact H | (rw [hy245]; exact H) | exact H
                      have Ny245 := Aside0.mk hy245
                      clear hy245
                      have H' := Aside0.mk H
                      clear H
                      have p242 : 0 ≤ (x27_1 : Int) := of_decide_eq_true (by first | (with_reducible assumption) | assumption)
                      have q242 : x27_1 < (t239.length : Int) := of_decide_eq_true (by first | (with_reducible assumption) | assumption)
                      obtain ⟨ad242, e242, hx242_0⟩ := Kd.at_int (Kd.R_reads' HO_25.out).2.2 x27_1 p242 q242
                      cases e242
                      replace p242 := eq_true p242
                      replace q242 := eq_true q242
                      go_wp2_with (first | (refine gA (some 33) Tryz.func198 #[.int .i64 (rd t239 x27_1)] ?_; (with_reducible refine (impl_size.calls (rd t239 x27_1) t243 _ A21.out).mono ?_); rintro e w' ⟨rfl, ⟨nd, rfl⟩⟩; refine ⟨_, rfl, ?_⟩; (try (rw [drewN_self wr]; generalize hq_ : World.drewN wr _ = wr; have n0_ : Aside0 (Kd.R (Kd.int .i64) 3 wr w.heap.size (fun k_ => some k_ ≠ (.slice (some ad242) t239.length co17 : Value).ownBlock ∧ some k_ ≠ (v237 : Value).ownBlock) (.slice Ao11 t231.length co11) t231) := ⟨by rw [← hq_]; exact (by (with_reducible repeat (first | apply Kd.R_alloc | apply Kd.R_drewN | apply Kd.R_drew)); (first | exact Kd.R_mono HO_236000.out (fun _ hk => ⟨hk.2, hk.1⟩) | exact HO_236000.out))⟩; have n1_ : Aside0 (Kd.R (Kd.int .i64) 3 wr w.heap.size (fun k_ => some k_ ≠ (.slice Ao11 t231.length co11 : Value).ownBlock ∧ some k_ ≠ (v237 : Value).ownBlock) (.slice (some ad242) t239.length co17) t239) := ⟨by rw [← hq_]; exact (by (with_reducible repeat (first | apply Kd.R_alloc | apply Kd.R_drewN | apply Kd.R_drew)); (first | exact Kd.R_mono HO_25.out (fun _ hk => ⟨hk.2, hk.1⟩) | exact HO_25.out))⟩; have n2_ : Aside0 (Kd.R (Kd.int .i64) 3 wr w.heap.size (fun k_ => some k_ ≠ (.slice Ao11 t231.length co11 : Value).ownBlock ∧ some k_ ≠ (.slice (some ad242) t239.length co17 : Value).ownBlock) v237 x8_1) := ⟨by rw [← hq_]; exact (by (with_reducible repeat (first | apply Kd.R_alloc | apply Kd.R_drewN | apply Kd.R_drew)); (first | exact Kd.R_mono HO_8.out (fun _ hk => ⟨hk.2, hk.1⟩) | exact HO_8.out))⟩; have n3_ : Aside0 (wr.heap[gb235]? = some (.cells #[.slice Ao11 t231.length co11] 26 (0, 0))) := ⟨by rw [← hq_]; exact (uK BK235)⟩; have n4_ : Aside0 (Below w.heap.size w wr) := ⟨by rw [← hq_]; exact (vB HB)⟩; clear HO_236000 HO_25 HO_8 BK235 HB hq_; have HO_236000 := n0_; have HO_25 := n1_; have HO_8 := n2_; have BK235 := n3_; have HB := n4_; clear n0_ n1_ n2_ n3_ n4_)); obtain ⟨Ao25, co25, eo25⟩ := Kd.R_slice HO_8.out; subst eo25; have p244 : 0 ≤ (t243 : Int) := of_decide_eq_true (by first | (with_reducible assumption) | assumption); have q244 : t243 < (x8_1.length : Int) := of_decide_eq_true (by first | (with_reducible assumption) | assumption); obtain ⟨ad244, e244, hx244_0⟩ := Kd.at_int (Kd.R_reads' HO_8.out).2.2 t243 p244 q244; cases e244; replace p244 := eq_true p244; replace q244 := eq_true q244; have p24 : 0 ≤ (t243 : Int) := of_decide_eq_true (by first | (with_reducible assumption) | assumption); have q24 : (t243 : Int) < ((x8_1.length : Int) : Int) := of_decide_eq_true (by first | (with_reducible assumption) | assumption); obtain ⟨go24, co24, eo24, gb24, gl24, cl24, HG24⟩ := Kd.R_form HO_8.out (by omega); (first | cases eo24 | (injection eo24 with ea_ en_ ec_; (first | subst ea_ | (injection ea_ with ea_; subst ea_)); subst ec_; clear en_)); have GB24 := Aside0.mk gb24; have GG24 := Aside0.mk HG24; clear gb24 gl24 HG24; (first | simp only [add_plain] at hx244_0 | skip); obtain ⟨hx24_0, hf24_0⟩ := Kd.R_celln 0 HO_8.out (t243 : Int) p24 q24; replace p24 := eq_true p24; replace q24 := eq_true q24; obtain ⟨hy26_, hz26_⟩ := Kd.R_celln 0 HO_8.out (t243 : Int) (of_decide_eq_true (by first | (with_reducible assumption) | assumption)) (of_decide_eq_true (by first | (with_reducible assumption) | assumption)); have HP26 := Kd.R_putg HO_8.out (t243 : Int) (wrap64 ((rd x8_1 t243) + 1))) | ((with_reducible refine gate_store (t := 3) (p := 37) rfl ?_); refine store_event (t := 3) (p := 37) (v := ?vo_w27) (w1 := (wr.setCell ⟨go24, (t243 : Int).toNat, none⟩ (.int .i64 (wrap64 ((rd x8_1 t243) + 1))))) ?hg ?ho ?hn ?hr ?_; (case ho => rfl); (case hg => rfl); (case hn => rfl); (case hr => first | (go_simp; done) | (go_simp; rfl)); intro w27 hw; have hg : wr.grownBy w27 (some go24) := (by rw [hw]; exact HP26.2); have hp_ : Kd.R (Kd.int .i64) 3 w27 w.heap.size (fun k_ => some k_ ≠ (.slice (some ad242) t239.length co17 : Value).ownBlock ∧ some k_ ≠ (.slice Ao11 t231.length co11 : Value).ownBlock) (.slice (some ⟨go24, 0, none⟩) x8_1.length co25) y245 := (by rw [hw, Ny245.out]; first | exact HP26.1 | exact Kd.R_mono HP26.1 (fun _ hk => ⟨hk.2, hk.1⟩)); clear HP26; have n0_ := Aside0.mk (hp_); have n1_ := Aside0.mk (Kd.R_after (v := (.slice (some ⟨go24, 0, none⟩) x8_1.length co25)) (v1 := (.slice (some ⟨go24, 0, none⟩) x8_1.length co25)) (ok := (fun k_ => some k_ ≠ (.slice Ao11 t231.length co11 : Value).ownBlock)) (by (with_reducible repeat (first | apply Kd.R_alloc | apply Kd.R_drewN | apply Kd.R_drew)); (first | exact Kd.R_mono HO_25.out (fun _ hk => ⟨hk.2, hk.1⟩) | exact HO_25.out)) hg (.inl rfl)); have n2_ := Aside0.mk (Kd.R_after (v := (.slice (some ⟨go24, 0, none⟩) x8_1.length co25)) (v1 := (.slice (some ⟨go24, 0, none⟩) x8_1.length co25)) (ok := (fun k_ => some k_ ≠ (.slice (some ad242) t239.length co17 : Value).ownBlock)) (by (with_reducible repeat (first | apply Kd.R_alloc | apply Kd.R_drewN | apply Kd.R_drew)); (first | exact Kd.R_mono HO_236000.out (fun _ hk => ⟨hk.2, hk.1⟩) | exact HO_236000.out)) hg (.inl rfl)); have n3_ := Aside0.mk (blk_grown (uK BK235) hg (Kd.R_ne HO_8.out BK235.out (by decide))); have n4_ := Aside0.mk ((by rw [hw]; exact below_set (HB.out) GB24.out : Below w.heap.size w w27)); clear HO_8; clear HO_25; clear HO_236000; clear BK235; clear HB; have HO_8 := n0_; have HO_25 := n1_; have HO_236000 := n2_; have BK235 := n3_; have HB := n4_; clear n0_ n1_ n2_ n3_ n4_; clear hg hw hp_))
                      go_roundg k1
                      case measure => have := HK1.out; omega
                      case rel => exact ⟨(y245), (wrap64 (x27_1 + 1)), (by first | rfl | (simp; done) | (simp [*]; done)), H', ⟨by have := HK1.out; omega⟩, ⟨uR HO_8⟩, ⟨by (with_reducible repeat (first | apply Kd.R_alloc | apply Kd.R_drewN | apply Kd.R_drew)); (first | exact Kd.R_mono HO_25.out (fun _ hk => ⟨hk.2, hk.1⟩) | exact HO_25.out)⟩, ⟨by (with_reducible repeat (first | apply Kd.R_alloc | apply Kd.R_drewN | apply Kd.R_drew)); (first | exact Kd.R_mono HO_236000.out (fun _ hk => ⟨hk.2, hk.1⟩) | exact HO_236000.out)⟩, ⟨uK BK235⟩, ⟨(vB HB)⟩⟩
                    · rw [if_neg c23] at H
                      exact absurd H (by simp)
                  · rw [if_neg c22] at H
                    exact absurd H (by simp)
                · rw [if_neg c20] at H
                  exact absurd H (by simp)
              · rw [if_neg c19] at H
                exact absurd H (by simp)
            · rw [if_neg c18] at H
              have c18b0 := decide_eq_false c18
              clear c18
              simp only [Option.some.injEq, Prod.mk.injEq] at H
              obtain ⟨rfl, rfl⟩ := H
              go_wp2
              go_ret2
              exact ⟨_, by first | rfl | (simp [errW_none, errW_some] <;> rfl) | (simp only [← hji5]; first | rfl | (simp [errW_none, errW_some] <;> rfl)) | (simp [*, errW_none, errW_some] <;> rfl), Kd.R_mono (uR HO_8) (fun _ hk => trivial), (vB HB)⟩
      · rw [if_neg c7] at H
        exact absurd H (by simp)
    · rw [if_neg c6] at H
      exact absurd H (by simp)
  · replace c4 := Bool.eq_false_iff.mpr c4
    subst c4
    rw [if_neg (show ¬ (false = true) by decide)] at H
    simp only [Option.some.injEq, Prod.mk.injEq] at H
    obtain ⟨rfl, rfl⟩ := H
    go_enter Tryz.func60, Tryz.ntmps60
    go_wp2_with (first | (refine gA (some 14) Tryz.func75 #[.int .i64 a0, .int .i64 a1] ?_; (with_reducible refine (impl_Rectangle.calls k a0 a1 t231 false _ A3.out).mono ?_); rintro e w28 ⟨v232, rfl, ho0, hb⟩; refine ⟨_, rfl, ?_⟩; have n0_ := Aside0.mk (Kd.R_lower ho0 (below_size (uB HB))); have n1_ := Aside0.mk (below_step (uB HB) hb); clear HB; have HO233 := n0_; have HB := n1_; clear n0_ n1_; (try clear hb ho0)) | (refine bE (N := 6) (cs := #[.slice none 0 0]) (t := 26) ?_; intro gb235 hg w29 hbox hb; have n0_ := Aside0.mk (Kd.R_below (uR HO233) hb); have n1_ := Aside0.mk (below_step (uB HB) hb); have n2_ := Aside0.mk (hbox); have n3_ := Aside0.mk ((by rw [hg]; exact (below_size (uB HB)) : w.heap.size ≤ gb235)); have n4_ := Aside0.mk ((by rw [hg]; exact (below_size (uB HB)) : w.heap.size ≤ gb235)); clear HO233; clear HB; have HO233 := n0_; have HB := n1_; have BK235 := n2_; have GW235 := n3_; have GE235 := n4_; clear n0_ n1_ n2_ n3_ n4_; clear hb hbox hg; obtain ⟨Ao30, co30, eo30⟩ := Kd.R_slice HO233.out; subst eo30; have hcz31_0 := bC BK235; have hfz31_0 := blk_frozen BK235.out 0))
    go_ret2
    exact ⟨_, by first | rfl | (simp [errW_none, errW_some] <;> rfl) | (simp [*, errW_none, errW_some] <;> rfl), by first | exact Kd.R_nil _ _ _ _ _ | exact Kd.N_nil _ _ _ _ _ | exact Kd.V_nil _ _ _ _ _ | exact Kd.Q_nil _ _ _ _ _ | exact Kd.S_nil _ _ _ _ _, (vB HB)⟩
end Go.Proofs.YtkgngggppcmpfaaGreat.L
end
section
namespace Go.Proofs.YtkgngggppcmpfaaGreat.L
open Go.RowKit Go.Proofs.YtkgngggppcmpfaaGreatW.PrintWords Go.Proofs.YtkgngggppcmpfaaGreatW.PrintLast Go.Proofs.YtkgngggppcmpfaaGreatW.PrintMore
attribute [local go_sem] max2_int min2_int max_two min_two max_three min_three max_four min_four
set_option linter.unusedVariables false
set_option linter.unusedSimpArgs false
def spec_l1In.f (a0 : Int) (a1 : Int) (a2 : Int) : Option (Bool) := if a0 ≥ a1 then (some (decide (a0 ≤ a2))) else (some false)
set_option maxHeartbeats 8000000 in
set_option maxRecDepth 100000 in
theorem spec_l1In.calls (a0 : Int) (a1 : Int) (a2 : Int) (r : Bool) (w : World) (h : spec_l1In.f a0 a1 a2 = some r) :
    Calls Tryz.prog 192 #[.int .i64 a0, .int .i64 a1, .int .i64 a2] w fun e w' => e = .returned (.bool r) ∧ Drawn0 w w' := by
  have H : (if a0 ≥ a1 then (some (decide (a0 ≤ a2))) else (some false)) = some r := h
  clear h
  by_cases c4 : a0 ≥ a1
  · rw [if_pos c4] at H
    have c4b0 := decide_eq_true c4
    clear c4
    obtain rfl := Option.some.inj H
    go_enter Tryz.func192, Tryz.ntmps192
    go_wp2
    go_ret
    exact ⟨by first | rfl | (simp; done) | (simp [*]; done), by repeat (first | exact Drawn0.refl _ | apply Drawn0.step)⟩
  · rw [if_neg c4] at H
    have c4b0 := decide_eq_false c4
    clear c4
    obtain rfl := Option.some.inj H
    go_enter Tryz.func192, Tryz.ntmps192
    go_wp2
    go_ret
    exact ⟨by first | rfl | (simp; done) | (simp [*]; done), by repeat (first | exact Drawn0.refl _ | apply Drawn0.step)⟩
end Go.Proofs.YtkgngggppcmpfaaGreat.L
end
section
namespace Go.Proofs.YtkgngggppcmpfaaGreat.L
open Go.RowKit Go.Proofs.YtkgngggppcmpfaaGreatW.PrintWords Go.Proofs.YtkgngggppcmpfaaGreatW.PrintLast Go.Proofs.YtkgngggppcmpfaaGreatW.PrintMore Go.Proofs.YtkgngggppcmpfaaGreat.X
attribute [local go_sem] max2_int min2_int max_two min_two max_three min_three max_four min_four
set_option linter.unusedVariables false
set_option linter.unusedSimpArgs false
def spec_shSides.f (a0 : Int) (a1 : Int) : Option (Bool) := (spec_l1In.f a0 1 10).bind fun t246 => (if t246 = true then ((spec_l1In.f a1 1 10).bind fun t247 => (if t247 = true then (some (decide ((wrap64 (a0 * a1)) ≤ 10))) else (some false))) else (some false))
set_option maxHeartbeats 8000000 in
set_option maxRecDepth 100000 in
theorem spec_shSides.calls (a0 : Int) (a1 : Int) (r : Bool) (w : World) (h : spec_shSides.f a0 a1 = some r) :
    Calls Tryz.prog 203 #[.int .i64 a0, .int .i64 a1] w fun e w' => e = .returned (.bool r) ∧ Drawn0 w w' := by
  have H : ((spec_l1In.f a0 1 10).bind fun t246 => (if t246 = true then ((spec_l1In.f a1 1 10).bind fun t247 => (if t247 = true then (some (decide ((wrap64 (a0 * a1)) ≤ 10))) else (some false))) else (some false))) = some r := h
  clear h
  obtain ⟨t246, A3, H⟩ := bs H; (try dsimp only at H)
  by_cases c4 : t246 = true
  · subst c4
    rw [if_pos rfl] at H
    obtain ⟨t247, A5, H⟩ := bs H; (try dsimp only at H)
    by_cases c6 : t247 = true
    · subst c6
      rw [if_pos rfl] at H
      obtain rfl := Option.some.inj H
      go_enter Tryz.func203, Tryz.ntmps203
      go_wp2_with (first | (refine gA (some 6) Tryz.func192 #[.int .i64 a0, .int .i64 1, .int .i64 10] ?_; (with_reducible refine (spec_l1In.calls a0 1 10 true _ A3.out).mono ?_); rintro e w' ⟨rfl, ⟨nd, rfl⟩⟩; refine ⟨_, rfl, ?_⟩) | (go_at_call 192; (with_reducible refine (spec_l1In.calls a1 1 10 true _ A5.out).mono ?_); rintro e w' ⟨rfl, ⟨nd, rfl⟩⟩))
      go_ret
      exact ⟨by first | rfl | (simp; done) | (simp [*]; done), by repeat (first | exact Drawn0.refl _ | apply Drawn0.step)⟩
    · replace c6 := Bool.eq_false_iff.mpr c6
      subst c6
      rw [if_neg (show ¬ (false = true) by decide)] at H
      obtain rfl := Option.some.inj H
      go_enter Tryz.func203, Tryz.ntmps203
      go_wp2_with (first | (refine gA (some 6) Tryz.func192 #[.int .i64 a0, .int .i64 1, .int .i64 10] ?_; (with_reducible refine (spec_l1In.calls a0 1 10 true _ A3.out).mono ?_); rintro e w' ⟨rfl, ⟨nd, rfl⟩⟩; refine ⟨_, rfl, ?_⟩) | (go_at_call 192; (with_reducible refine (spec_l1In.calls a1 1 10 false _ A5.out).mono ?_); rintro e w' ⟨rfl, ⟨nd, rfl⟩⟩))
      go_ret
      exact ⟨by first | rfl | (simp; done) | (simp [*]; done), by repeat (first | exact Drawn0.refl _ | apply Drawn0.step)⟩
  · replace c4 := Bool.eq_false_iff.mpr c4
    subst c4
    rw [if_neg (show ¬ (false = true) by decide)] at H
    obtain rfl := Option.some.inj H
    go_enter Tryz.func203, Tryz.ntmps203
    go_wp2_with (first | (refine gA (some 6) Tryz.func192 #[.int .i64 a0, .int .i64 1, .int .i64 10] ?_; (with_reducible refine (spec_l1In.calls a0 1 10 false _ A3.out).mono ?_); rintro e w' ⟨rfl, ⟨nd, rfl⟩⟩; refine ⟨_, rfl, ?_⟩))
    go_ret
    exact ⟨by first | rfl | (simp; done) | (simp [*]; done), by repeat (first | exact Drawn0.refl _ | apply Drawn0.step)⟩
mutual
def spec_svGauss.l0 : Nat → List Int → Int → List Int → List Int → Int → Int → Option (List Int)
  | 0, _, _, _, _, _, _ => none
  | k + 1, x1, x2, x7, x19, x20, x21 => if x21 < x20 then (if 0 ≤ x21 then (if x21 < (x19.length : Int) then (spec_svGauss.l1 k x1 x2 x7 (rd x19 x21) x2 x19 x20 x21) else (none)) else (none)) else (spec_svGauss.l2 k x2 x7 x1 (x1.length : Int) 0)
def spec_svGauss.l1 : Nat → List Int → Int → List Int → Int → Int → List Int → Int → Int → Option (List Int)
  | 0, _, _, _, _, _, _, _, _ => none
  | k + 1, x1, x2, x7, x9, x10, x19, x20, x21 => if x10 ≥ x9 then (if 0 ≤ x10 then (if x10 < (x7.length : Int) then (if 0 ≤ (wrap64 (x10 - x9)) then (if (wrap64 (x10 - x9)) < (x7.length : Int) then (spec_svGauss.l1 k x1 x2 (x7.set (x10 : Int).toNat (wrap64 ((rd x7 x10) - (rd x7 (wrap64 (x10 - x9)))))) x9 (wrap64 (x10 - 1)) x19 x20 x21) else (none)) else (none)) else (none)) else (none)) else (spec_svGauss.l0 k x1 x2 x7 x19 x20 (wrap64 (x21 + 1)))
def spec_svGauss.l2 : Nat → Int → List Int → List Int → Int → Int → Option (List Int)
  | 0, _, _, _, _, _ => none
  | k + 1, x2, x7, x44, x45, x46 => if x46 < x45 then (if 0 ≤ x46 then (if x46 < (x44.length : Int) then (spec_svGauss.l3 k x2 x7 (rd x44 x46) (rd x44 x46) x44 x45 x46) else (none)) else (none)) else (some x7)
def spec_svGauss.l3 : Nat → Int → List Int → Int → Int → List Int → Int → Int → Option (List Int)
  | 0, _, _, _, _, _, _, _ => none
  | k + 1, x2, x7, x12, x13, x44, x45, x46 => if x13 ≤ x2 then (if 0 ≤ x13 then (if x13 < (x7.length : Int) then (if 0 ≤ (wrap64 (x13 - x12)) then (if (wrap64 (x13 - x12)) < (x7.length : Int) then (spec_svGauss.l3 k x2 (x7.set (x13 : Int).toNat (wrap64 ((rd x7 x13) + (rd x7 (wrap64 (x13 - x12)))))) x12 (wrap64 (x13 + 1)) x44 x45 x46) else (none)) else (none)) else (none)) else (none)) else (spec_svGauss.l2 k x2 x7 x44 x45 (wrap64 (x46 + 1)))
end
def spec_svGauss.f (k : Nat) (l0 : List Int) (l1 : List Int) (a2 : Int) : Option (List Int) := if 0 ≤ (wrap64 (a2 + 1)) then (if (wrap64 (a2 + 1) : Int).toNat ≤ 35184372088832 then ((some (List.replicate (wrap64 (a2 + 1) : Int).toNat 0 : List Int)).bind fun y248 => (if 0 < (y248.length : Int) then (spec_svGauss.l0 k l1 a2 (y248.set (0 : Int).toNat 1) l0 (l0.length : Int) 0) else (none))) else (none)) else (none)
theorem spec_svGauss.mono_l : ∀ k, (∀ y0 y1 y2 y3 y4 y5, LeO (spec_svGauss.l0 k y0 y1 y2 y3 y4 y5) (spec_svGauss.l0 (k + 1) y0 y1 y2 y3 y4 y5)) ∧ (∀ y0 y1 y2 y3 y4 y5 y6 y7, LeO (spec_svGauss.l1 k y0 y1 y2 y3 y4 y5 y6 y7) (spec_svGauss.l1 (k + 1) y0 y1 y2 y3 y4 y5 y6 y7)) ∧ (∀ y0 y1 y2 y3 y4, LeO (spec_svGauss.l2 k y0 y1 y2 y3 y4) (spec_svGauss.l2 (k + 1) y0 y1 y2 y3 y4)) ∧ (∀ y0 y1 y2 y3 y4 y5 y6, LeO (spec_svGauss.l3 k y0 y1 y2 y3 y4 y5 y6) (spec_svGauss.l3 (k + 1) y0 y1 y2 y3 y4 y5 y6))
  | 0 => ⟨fun _ _ _ _ _ _ r h => by simp [spec_svGauss.l0] at h, fun _ _ _ _ _ _ _ _ r h => by simp [spec_svGauss.l1] at h, fun _ _ _ _ _ r h => by simp [spec_svGauss.l2] at h, fun _ _ _ _ _ _ _ r h => by simp [spec_svGauss.l3] at h⟩
  | k + 1 => by
    obtain ⟨ih0, ih1, ih2, ih3⟩ := spec_svGauss.mono_l k
    refine ⟨?_, ?_, ?_, ?_⟩
    all_goals
      intros
      first | unfold spec_svGauss.l0 | unfold spec_svGauss.l1 | unfold spec_svGauss.l2 | unfold spec_svGauss.l3
      repeat' (with_reducible first | apply ih0 | apply ih1 | apply ih2 | apply ih3 | exact LeO.refl _ | exact LeO.none _ | refine LeO.ite ?_ ?_ | refine LeO.bind ?_ (fun _ => ?_))
theorem spec_svGauss.mono : ∀ a0 a1 a2 k, LeO (spec_svGauss.f k a0 a1 a2) (spec_svGauss.f (k + 1) a0 a1 a2) := by
  intro a0 a1 a2 k
  obtain ⟨ih0, ih1, ih2, ih3⟩ := spec_svGauss.mono_l k
  unfold spec_svGauss.f
  repeat' (with_reducible first | apply ih0 | apply ih1 | apply ih2 | apply ih3 | exact LeO.refl _ | exact LeO.none _ | refine LeO.ite ?_ ?_ | refine LeO.bind ?_ (fun _ => ?_))
def spec_svGauss.T9 : Bool × List (List Nat × List Nat) := (true, [([], []), ([], []), ([0, 1], [0, 1]), ([2], [2]), ([], []), ([], []), ([], []), ([5, 6], [5, 6]), ([4, 7], [4, 7]), ([8], [8]), ([3, 9], [3, 9]), ([0, 1, 0, 1, 2, 3, 4, 5, 6, 7, 8, 9, 10], [0, 1]), ([11, 10, 0, 1, 2, 3, 4, 5, 6, 7, 8, 9, 10], [10, 11])])
def spec_svGauss.B9 : List Nat := [0, 0, 3, 7, 0, 0, 0, 96, 240, 496, 1023, 2047, 4095]
theorem spec_svGauss.tab9 : rtab .any (opsOf Tryz.f204 9) = spec_svGauss.T9 := by kernel_rfl
theorem spec_svGauss.bits9 : waitsOk spec_svGauss.T9.2 spec_svGauss.B9 = true := by kernel_rfl
def spec_svGauss.T17 : Bool × List (List Nat × List Nat) := (true, [([], []), ([], []), ([0, 1], [0, 1]), ([2], [2]), ([], []), ([], []), ([], []), ([5, 6], [5, 6]), ([4, 7], [4, 7]), ([8], [8]), ([3, 9], [3, 9]), ([0, 1, 0, 1, 2, 3, 4, 5, 6, 7, 8, 9, 10], [0, 1]), ([11, 10, 0, 1, 2, 3, 4, 5, 6, 7, 8, 9, 10], [10, 11])])
def spec_svGauss.B17 : List Nat := [0, 0, 3, 7, 0, 0, 0, 96, 240, 496, 1023, 2047, 4095]
theorem spec_svGauss.tab17 : rtab .any (opsOf Tryz.f204 17) = spec_svGauss.T17 := by kernel_rfl
theorem spec_svGauss.bits17 : waitsOk spec_svGauss.T17.2 spec_svGauss.B17 = true := by kernel_rfl
set_option maxHeartbeats 8000000 in
set_option maxRecDepth 100000 in
theorem spec_svGauss.calls (k : Nat) (A0 : Option Addr) (c0 : Nat) (l0 : List Int) (A1 : Option Addr) (c1 : Nat) (l1 : List Int) (a2 : Int) (r : List Int) (w : World) (hr0 : Kd.C (Kd.int .i64) w A0 l0.length l0) (hc0 : l0.length ≤ c0) (hr1 : Kd.C (Kd.int .i64) w A1 l1.length l1) (hc1 : l1.length ≤ c1) (h : spec_svGauss.f k l0 l1 a2 = some r) :
    Calls Tryz.prog 204 #[.slice A0 l0.length c0, .slice A1 l1.length c1, .int .i64 a2] w fun e w' => ∃ v0_ : Value, e = .returned (v0_) ∧ Kd.R (Kd.int .i64) 3 w' w.heap.size (fun _ => True) v0_ r ∧ Below w.heap.size w w' := by
  have HR0 := Aside0.mk hr0
  have HC0 := Aside0.mk hc0
  clear hr0 hc0
  have HR1 := Aside0.mk hr1
  have HC1 := Aside0.mk hc1
  clear hr1 hc1
  have HB := Aside0.mk (Below.refl w.heap.size w)
  have H : (if 0 ≤ (wrap64 (a2 + 1)) then (if (wrap64 (a2 + 1) : Int).toNat ≤ 35184372088832 then ((some (List.replicate (wrap64 (a2 + 1) : Int).toNat 0 : List Int)).bind fun y248 => (if 0 < (y248.length : Int) then (spec_svGauss.l0 k l1 a2 (y248.set (0 : Int).toNat 1) l0 (l0.length : Int) 0) else (none))) else (none)) else (none)) = some r := h
  clear h
  obtain ⟨ji4, hji4⟩ : ∃ j_ : Int, (wrap64 (a2 + 1)) = j_ := ⟨_, rfl⟩
  replace H : (if 0 ≤ (ji4) then (if (ji4 : Int).toNat ≤ 35184372088832 then ((some (List.replicate (ji4 : Int).toNat 0 : List Int)).bind fun y248 => (if 0 < (y248.length : Int) then (spec_svGauss.l0 k l1 a2 (y248.set (0 : Int).toNat 1) l0 (l0.length : Int) 0) else (none))) else (none)) else (none)) = some r := by first | (rw [hji4] at H; exact H) | (simp only [hji4] at H ⊢; exact H)
  have hji4w : (IntKind.i64.wrap (a2 + 1)) = ji4 := (i64_w _).trans hji4
  by_cases c5 : 0 ≤ (ji4)
  · rw [if_pos c5] at H
    have c5b0 := eq_true c5
    have c5b1 := decide_eq_true c5
    clear c5
    by_cases c6 : (ji4 : Int).toNat ≤ 35184372088832
    · rw [if_pos c6] at H
      have c6b0 := eq_true c6
      have c6b1 := decide_eq_true c6
      clear c6
      obtain ⟨y248, hy248⟩ : ∃ y_ : List Int, y_ = (List.replicate (ji4 : Int).toNat 0) := ⟨_, rfl⟩
      replace H : (if 0 < (y248.length : Int) then (spec_svGauss.l0 k l1 a2 (y248.set (0 : Int).toNat 1) l0 (l0.length : Int) 0) else (none)) = some r := by first | (rw [hy248]; with_reducible exact H) | (have H2_ := (Option.bind_some _ _).symm.trans H; rw [hy248]; with_reducible exact H2_) | (have H2_ := (Option.bind_some _ _).symm.trans H; with_reducible exact H2_) | with_reducible exact H | (rw [hy248]; exact H) | exact H
      have Ny248 := Aside0.mk hy248
      clear hy248
      by_cases c7 : 0 < (y248.length : Int)
      · rw [if_pos c7] at H
        have c7b0 := decide_eq_true c7
        have c7b1 : decide (0 < y248.length) = true := decide_eq_true (by omega)
        clear c7
        obtain ⟨y251, hy251⟩ : ∃ y_ : List Int, y_ = (y248.set (0 : Int).toNat 1) := ⟨_, rfl⟩
        replace H : (spec_svGauss.l0 k l1 a2 y251 l0 (l0.length : Int) 0) = some r := by first | (rw [hy251]; with_reducible exact H) | (have H2_ := (Option.bind_some _ _).symm.trans H; rw [hy251]; with_reducible exact H2_) | (have H2_ := (Option.bind_some _ _).symm.trans H; with_reducible exact H2_) | with_reducible exact H | (rw [hy251]; exact H) | exact H
        have Ny251 := Aside0.mk hy251
        clear hy251
        have H' := Aside0.mk H
        clear H
        go_enter Tryz.func204, Tryz.ntmps204
        go_wp2_with (first | ((with_reducible refine gate_dst (N := 16) rfl ?_); refine Kd.R_make (Kd.int .i64) _ 3 rfl (N := 16) rfl 24 _ _ rfl ji4 rfl rfl Tryz.underlying24 (.int .i64 0) 8 info3 rfl (by decide) (by omega) 0 (ok := fun _ => True) (okp := fun _ => True) rfl (fun _ hk => hk) trivial (of_decide_eq_true (by first | (with_reducible assumption) | assumption)) (Nat.le_trans (Nat.mul_le_mul_right _ (of_decide_eq_true (by first | (with_reducible assumption) | assumption) : ji4.toNat ≤ 35184372088832)) (by omega)) (Below.refl _ _) (Nat.le_refl _) ?_; intro v249 w9 ho10 hb hg_ hnew_; clear hg_ hnew_; (first | rw [← Ny248.out] at ho10 | (simp only [Int.reduceToNat] at ho10; rw [← Ny248.out] at ho10)); have n0_ := Aside0.mk (Kd.R_lower ho10 (below_size (uB HB))); have n1_ := Aside0.mk (below_step (uB HB) hb); clear HB; have HO250 := n0_; have HB := n1_; clear n0_ n1_; clear hb ho10; have p8 : 0 ≤ (0 : Int) := (by omega); have q8 : (0 : Int) < ((y248.length : Int) : Int) := of_decide_eq_true (by first | (with_reducible assumption) | assumption); have qi8 : (0 < y248.length) = True := eq_true (by omega); obtain ⟨go8, co8, eo8, gb8, gl8, cl8, HG8⟩ := Kd.R_form HO250.out (by omega); (first | cases eo8 | (injection eo8 with ea_ en_ ec_; (first | subst ea_ | (injection ea_ with ea_; subst ea_)); subst ec_; clear en_)); have GB8 := Aside0.mk gb8; have GG8 := Aside0.mk HG8; clear gb8 gl8 HG8; obtain ⟨hx8_0, hf8_0⟩ := Kd.R_celln 0 HO250.out (0 : Int) p8 q8; (try rw [show ((0 : Int)).toNat = 0 from rfl] at hx8_0); (try simp only [Nat.reduceMul, Nat.zero_mul, Nat.zero_add, Nat.reduceAdd] at hx8_0); (try rw [show ((0 : Int)).toNat = 0 from rfl] at hf8_0); (try simp only [Nat.reduceMul, Nat.zero_mul, Nat.zero_add, Nat.reduceAdd] at hf8_0); replace p8 := eq_true p8; replace q8 := eq_true q8; obtain ⟨hy11_, hz11_⟩ := Kd.R_celln 0 HO250.out (0 : Int) (by omega) (of_decide_eq_true (by first | (with_reducible assumption) | assumption)); (try simp only [Int.reduceToNat, Int.toNat_zero, Int.toNat_ofNat, Nat.reduceMul, Nat.zero_mul, Nat.zero_add] at hy11_ hz11_); (try rw [show ((0 : Int)).toNat = 0 from rfl] at hy11_); (try rw [show ((0 : Int)).toNat = 0 from rfl] at hz11_); have HP11 := Kd.R_putg HO250.out (0 : Int) 1) | ((with_reducible refine gate_store (t := 3) (p := 18) rfl ?_); refine store_event (t := 3) (p := 18) (v := ?vo_w12) (w1 := (w9.setCell ⟨go8, (0 : Int).toNat, none⟩ (.int .i64 1))) ?hg ?ho ?hn ?hr ?_; (case ho => rfl); (case hg => rfl); (case hn => rfl); (case hr => first | (go_simp; done) | (go_simp; rfl)); intro w12 hw; have hg : w9.grownBy w12 (some go8) := (by rw [hw]; exact HP11.2); have hp_ : Kd.R (Kd.int .i64) 3 w12 w.heap.size (fun _ => True) (.slice (some ⟨go8, 0, none⟩) y248.length co8) y251 := (by rw [hw, Ny251.out]; exact HP11.1); clear HP11; have n0_ := Aside0.mk (hp_); have n1_ := Aside0.mk ((by rw [hw]; exact below_set (HB.out) GB8.out : Below w.heap.size w w12)); clear HO250; clear HB; have HO250 := n0_; have HB := n1_; clear n0_ n1_; clear hg hw hp_))
        go_loopg [21] k (fun kq v21 w' => ∃ (x7_1 : List Int) (x21_1 : Int), v21 = .int .i64 x21_1 ∧ Aside0 (spec_svGauss.l0 kq l1 a2 x7_1 l0 (l0.length : Int) x21_1 = some r) ∧ Aside0 (kq ≤ k) ∧ Aside0 (Kd.R (Kd.int .i64) 3 w' w.heap.size (fun _ => True) (.slice (some ⟨go8, 0, none⟩) y248.length co8) x7_1) ∧ Aside0 (Below w.heap.size w w'))
        case atStart => exact ⟨(y251), (0), (by first | rfl | (simp; done) | (simp [*]; done)), H', ⟨Nat.le_refl _⟩, ⟨uR HO250⟩, ⟨uB HB⟩⟩
        case round =>
          clear H'
          try clear c5b0 c5b1 c6b0 c6b1 c7b0 c7b1 p8 q8 qi8 hx8_0 p8 q8
          obtain ⟨x7_1, x21_1, rfl, HA, HK1, HO_7, HB⟩ := hrel
          have hl7_1 := (Kd.R_reads' HO_7.out).1
          rw [hl7_1] at HO_7
          (try simp only [hl7_1])
          cases gk with
          | zero => exact absurd HA.out (by simp [spec_svGauss.l0])
          | succ k1 =>
            have H := HA.out
            clear HA
            simp only [spec_svGauss.l0] at H
            by_cases c13 : x21_1 < (l0.length : Int)
            · rw [if_pos c13] at H
              have c13b0 := decide_eq_true c13
              clear c13
              by_cases c14 : 0 ≤ x21_1
              · rw [if_pos c14] at H
                have c14b0 := decide_eq_true c14
                clear c14
                by_cases c15 : x21_1 < (l0.length : Int)
                · rw [if_pos c15] at H
                  have c15b0 := decide_eq_true c15
                  clear c15
                  have H' := Aside0.mk H
                  clear H
                  have p252 : 0 ≤ (x21_1 : Int) := of_decide_eq_true (by first | (with_reducible assumption) | assumption)
                  have q252 : x21_1 < (l0.length : Int) := of_decide_eq_true (by first | (with_reducible assumption) | assumption)
                  obtain ⟨ad252, e252, hx252_0⟩ := Kd.at_int HR0.out x21_1 p252 q252
                  cases e252
                  replace hx252_0 := (HB.out.cell (World.block_lt_of_cell? w _ hx252_0)).trans hx252_0
                  replace p252 := eq_true p252
                  replace q252 := eq_true q252
                  go_wp2
                  go_loopg [10] k1 (fun kq v10 w' => ∃ (x7_2 : List Int) (x10_2 : Int), v10 = .int .i64 x10_2 ∧ Aside0 (spec_svGauss.l1 kq l1 a2 x7_2 (rd l0 x21_1) x10_2 l0 (l0.length : Int) x21_1 = some r) ∧ Aside0 (kq ≤ k1) ∧ Aside0 (Kd.R (Kd.int .i64) 3 w' w.heap.size (fun _ => True) (.slice (some ⟨go8, 0, none⟩) x7_1.length co8) x7_2) ∧ Aside0 (Below w.heap.size w w'))
                  case atStart => exact ⟨(x7_1), (a2), (by first | rfl | (simp; done) | (simp [*]; done)), H', ⟨Nat.le_refl _⟩, ⟨by (try simp only [hl7_1]); (with_reducible repeat (first | apply Kd.R_alloc | apply Kd.R_drewN | apply Kd.R_drew)); exact HO_7.out⟩, ⟨uB HB⟩⟩
                  case round =>
                    clear H'
                    try clear c13b0 c14b0 c15b0 hx252_0 p252 q252
                    obtain ⟨x7_2, x10_2, rfl, HA, HK2, HO_7, HB⟩ := hrel
                    have hl7_2 := (Kd.R_reads' HO_7.out).1
                    rw [hl7_2] at HO_7
                    (try simp only [hl7_2])
                    cases gk with
                    | zero => exact absurd HA.out (by simp [spec_svGauss.l1])
                    | succ k2 =>
                      have H := HA.out
                      clear HA
                      simp only [spec_svGauss.l1] at H
                      by_cases c16 : x10_2 ≥ (rd l0 x21_1)
                      · rw [if_pos c16] at H
                        have c16b0 := decide_eq_true c16
                        clear c16
                        by_cases c17 : 0 ≤ x10_2
                        · rw [if_pos c17] at H
                          have c17b0 := decide_eq_true c17
                          clear c17
                          by_cases c18 : x10_2 < (x7_2.length : Int)
                          · rw [if_pos c18] at H
                            have c18b0 := decide_eq_true c18
                            clear c18
                            obtain ⟨ji19, hji19⟩ : ∃ j_ : Int, (wrap64 (x10_2 - (rd l0 x21_1))) = j_ := ⟨_, rfl⟩
                            replace H : (if 0 ≤ (ji19) then (if (ji19) < (x7_2.length : Int) then (spec_svGauss.l1 k2 l1 a2 (x7_2.set (x10_2 : Int).toNat (wrap64 ((rd x7_2 x10_2) - (rd x7_2 (ji19))))) (rd l0 x21_1) (wrap64 (x10_2 - 1)) l0 (l0.length : Int) x21_1) else (none)) else (none)) = some r := by first | (rw [hji19] at H; exact H) | (simp only [hji19] at H ⊢; exact H)
                            have hji19w : (IntKind.i64.wrap (x10_2 - (rd l0 x21_1))) = ji19 := (i64_w _).trans hji19
                            by_cases c20 : 0 ≤ (ji19)
                            · rw [if_pos c20] at H
                              have c20b0 := decide_eq_true c20
                              clear c20
                              by_cases c21 : (ji19) < (x7_2.length : Int)
                              · rw [if_pos c21] at H
                                have c21b0 := decide_eq_true c21
                                clear c21
                                obtain ⟨y255, hy255⟩ : ∃ y_ : List Int, y_ = (x7_2.set (x10_2 : Int).toNat (wrap64 ((rd x7_2 x10_2) - (rd x7_2 (ji19))))) := ⟨_, rfl⟩
                                replace H : (spec_svGauss.l1 k2 l1 a2 y255 (rd l0 x21_1) (wrap64 (x10_2 - 1)) l0 (l0.length : Int) x21_1) = some r := by first | (rw [hy255]; with_reducible exact H) | (have H2_ := (Option.bind_some _ _).symm.trans H; rw [hy255]; with_reducible exact H2_) | (have H2_ := (Option.bind_some _ _).symm.trans H; with_reducible exact H2_) | with_reducible exact H | (rw [hy255]; exact H) | exact H
                                have Ny255 := Aside0.mk hy255
                                clear hy255
                                have H' := Aside0.mk H
                                clear H
                                try go_wp2
                                have n0_ := Aside0.mk (Kd.R_drew HO_7.out)
                                have n1_ := Aside0.mk (below_drew1 HB.out)
                                clear HO_7
                                clear HB
                                have HO_7 := n0_
                                have HB := n1_
                                clear n0_ n1_
                                have p253 : 0 ≤ (x10_2 : Int) := of_decide_eq_true (by first | (with_reducible assumption) | assumption)
                                have q253 : x10_2 < (x7_2.length : Int) := of_decide_eq_true (by first | (with_reducible assumption) | assumption)
                                obtain ⟨ad253, e253, hx253_0⟩ := Kd.at_int (Kd.R_reads' HO_7.out).2.2 x10_2 p253 q253
                                obtain rfl : (⟨go8, 0, none⟩ : Addr) = ad253 := (by injection e253)
                                (first | simp only [add_plain] at hx253_0 | simp only [add_at] at hx253_0 | simp only [Addr.add, Nat.zero_add] at hx253_0 | skip)
                                replace p253 := eq_true p253
                                replace q253 := eq_true q253
                                have p254 : 0 ≤ ((ji19) : Int) := of_decide_eq_true (by first | (with_reducible assumption) | assumption)
                                have q254 : (ji19) < (x7_2.length : Int) := of_decide_eq_true (by first | (with_reducible assumption) | assumption)
                                obtain ⟨ad254, e254, hx254_0⟩ := Kd.at_int (Kd.R_reads' HO_7.out).2.2 (ji19) p254 q254
                                obtain rfl : (⟨go8, 0, none⟩ : Addr) = ad254 := (by injection e254)
                                (first | simp only [add_plain] at hx254_0 | simp only [add_at] at hx254_0 | simp only [Addr.add, Nat.zero_add] at hx254_0 | skip)
                                replace p254 := eq_true p254
                                replace q254 := eq_true q254
                                have p22 : 0 ≤ (x10_2 : Int) := of_decide_eq_true (by first | (with_reducible assumption) | assumption)
                                have q22 : (x10_2 : Int) < ((x7_2.length : Int) : Int) := of_decide_eq_true (by first | (with_reducible assumption) | assumption)
                                obtain ⟨hx22_0, hf22_0⟩ := Kd.R_celln 0 HO_7.out (x10_2 : Int) p22 q22
                                replace p22 := eq_true p22
                                replace q22 := eq_true q22
                                have HP24 := Kd.R_putn HO_7.out (x10_2 : Int) (wrap64 ((rd x7_2 x10_2) - (rd x7_2 (ji19))))
                                rw [← Ny255.out] at HP24
                                have HQ24 := Aside0.mk HP24
                                clear HP24
                                refine sU (n := 13) (S := fun w' => w'.cell? ⟨go8, (x10_2).toNat, none⟩ = some (.int .i64 (rd x7_2 x10_2)) ∧ w'.cell? ⟨go8, ((ji19)).toNat, none⟩ = some (.int .i64 (rd x7_2 (ji19)))) (ds := [12]) ⟨hx253_0, hx254_0⟩ (fun hHeld => ?_); refine with_tabW spec_svGauss.tab9 spec_svGauss.bits9 (fun HT_ HW_ => ?_)
                                generalize wr.drew = w23 at HO_7 HB HQ24 hf22_0 hx22_0 hx253_0 hx254_0 hHeld ⊢
                                refine pU 0 31 ?_
                                refine pU 1 32 ?_
                                refine pU 2 33 ?_
                                refine pU 4 35 ?_
                                refine pU 5 36 ?_
                                refine pU 6 37 ?_
                                refine pU 7 38 ?_
                                refine pU 8 39 ?_
                                refine tW 3 34 hHeld ?_
                                refine tW 9 40 hHeld ?_
                                refine pU 10 41 ?_
                                refine pU 11 42 ?_
                                refine lU 12 none fun K hK => ?_
                                refine sK ?_
                                refine hK.out _ _ ?_
                                clear hK K
                                refine dU ?_
                                try go_wp2
                                (try simp only [← hl7_2])
                                go_roundg k2
                                case measure => have := HK1.out; have := HK2.out; omega
                                case rel => exact ⟨(y255), (wrap64 (x10_2 - 1)), (by first | rfl | (simp; done) | (simp [*]; done)), H', ⟨by have := HK1.out; have := HK2.out; omega⟩, ⟨by (try simp only [hl7_1]); (try simp only [hl7_2]); (with_reducible repeat (first | apply Kd.R_alloc | apply Kd.R_drewN | apply Kd.R_drew)); exact HQ24.out⟩, ⟨(vB HB)⟩⟩
                              · rw [if_neg c21] at H
                                exact absurd H (by simp)
                            · rw [if_neg c20] at H
                              exact absurd H (by simp)
                          · rw [if_neg c18] at H
                            exact absurd H (by simp)
                        · rw [if_neg c17] at H
                          exact absurd H (by simp)
                      · rw [if_neg c16] at H
                        have c16b0 := decide_eq_false c16
                        clear c16
                        have H' := Aside0.mk H
                        clear H
                        go_wp2
                        (try simp only [← hl7_1, ← hl7_2])
                        go_roundg k2
                        case measure => have := HK1.out; have := HK2.out; omega
                        case rel => exact ⟨(x7_2), (wrap64 (x21_1 + 1)), (by first | rfl | (simp; done) | (simp [*]; done)), H', ⟨by have := HK1.out; have := HK2.out; omega⟩, ⟨by (try simp only [hl7_1]); (try simp only [hl7_2]); (with_reducible repeat (first | apply Kd.R_alloc | apply Kd.R_drewN | apply Kd.R_drew)); exact HO_7.out⟩, ⟨uB HB⟩⟩
                · rw [if_neg c15] at H
                  exact absurd H (by simp)
              · rw [if_neg c14] at H
                exact absurd H (by simp)
            · rw [if_neg c13] at H
              have c13b0 := decide_eq_false c13
              clear c13
              have H' := Aside0.mk H
              clear H
              go_wp2
              go_loopg [46] k1 (fun kq v46 w' => ∃ (x7_2 : List Int) (x46_2 : Int), v46 = .int .i64 x46_2 ∧ Aside0 (spec_svGauss.l2 kq a2 x7_2 l1 (l1.length : Int) x46_2 = some r) ∧ Aside0 (kq ≤ k1) ∧ Aside0 (Kd.R (Kd.int .i64) 3 w' w.heap.size (fun _ => True) (.slice (some ⟨go8, 0, none⟩) x7_1.length co8) x7_2) ∧ Aside0 (Below w.heap.size w w'))
              case atStart => exact ⟨(x7_1), (0), (by first | rfl | (simp; done) | (simp [*]; done)), H', ⟨Nat.le_refl _⟩, ⟨by (try simp only [hl7_1]); (with_reducible repeat (first | apply Kd.R_alloc | apply Kd.R_drewN | apply Kd.R_drew)); exact HO_7.out⟩, ⟨uB HB⟩⟩
              case round =>
                clear H'
                try clear c13b0
                obtain ⟨x7_2, x46_2, rfl, HA, HK2, HO_7, HB⟩ := hrel
                have hl7_2 := (Kd.R_reads' HO_7.out).1
                rw [hl7_2] at HO_7
                (try simp only [hl7_2])
                cases gk with
                | zero => exact absurd HA.out (by simp [spec_svGauss.l2])
                | succ k2 =>
                  have H := HA.out
                  clear HA
                  simp only [spec_svGauss.l2] at H
                  by_cases c25 : x46_2 < (l1.length : Int)
                  · rw [if_pos c25] at H
                    have c25b0 := decide_eq_true c25
                    clear c25
                    by_cases c26 : 0 ≤ x46_2
                    · rw [if_pos c26] at H
                      have c26b0 := decide_eq_true c26
                      clear c26
                      by_cases c27 : x46_2 < (l1.length : Int)
                      · rw [if_pos c27] at H
                        have c27b0 := decide_eq_true c27
                        clear c27
                        have H' := Aside0.mk H
                        clear H
                        have p256 : 0 ≤ (x46_2 : Int) := of_decide_eq_true (by first | (with_reducible assumption) | assumption)
                        have q256 : x46_2 < (l1.length : Int) := of_decide_eq_true (by first | (with_reducible assumption) | assumption)
                        obtain ⟨ad256, e256, hx256_0⟩ := Kd.at_int HR1.out x46_2 p256 q256
                        cases e256
                        replace hx256_0 := (HB.out.cell (World.block_lt_of_cell? w _ hx256_0)).trans hx256_0
                        replace p256 := eq_true p256
                        replace q256 := eq_true q256
                        go_wp2
                        go_loopg [13] k2 (fun kq v13 w' => ∃ (x7_3 : List Int) (x13_3 : Int), v13 = .int .i64 x13_3 ∧ Aside0 (spec_svGauss.l3 kq a2 x7_3 (rd l1 x46_2) x13_3 l1 (l1.length : Int) x46_2 = some r) ∧ Aside0 (kq ≤ k2) ∧ Aside0 (Kd.R (Kd.int .i64) 3 w' w.heap.size (fun _ => True) (.slice (some ⟨go8, 0, none⟩) x7_2.length co8) x7_3) ∧ Aside0 (Below w.heap.size w w'))
                        case atStart => exact ⟨(x7_2), (rd l1 x46_2), (by first | rfl | (simp; done) | (simp [*]; done)), H', ⟨Nat.le_refl _⟩, ⟨by (try simp only [hl7_1]); (try simp only [hl7_2]); (with_reducible repeat (first | apply Kd.R_alloc | apply Kd.R_drewN | apply Kd.R_drew)); exact HO_7.out⟩, ⟨uB HB⟩⟩
                        case round =>
                          clear H'
                          try clear c25b0 c26b0 c27b0 hx256_0 p256 q256
                          obtain ⟨x7_3, x13_3, rfl, HA, HK3, HO_7, HB⟩ := hrel
                          have hl7_3 := (Kd.R_reads' HO_7.out).1
                          rw [hl7_3] at HO_7
                          (try simp only [hl7_3])
                          cases gk with
                          | zero => exact absurd HA.out (by simp [spec_svGauss.l3])
                          | succ k3 =>
                            have H := HA.out
                            clear HA
                            simp only [spec_svGauss.l3] at H
                            by_cases c28 : x13_3 ≤ a2
                            · rw [if_pos c28] at H
                              have c28b0 := decide_eq_true c28
                              clear c28
                              by_cases c29 : 0 ≤ x13_3
                              · rw [if_pos c29] at H
                                have c29b0 := decide_eq_true c29
                                clear c29
                                by_cases c30 : x13_3 < (x7_3.length : Int)
                                · rw [if_pos c30] at H
                                  have c30b0 := decide_eq_true c30
                                  clear c30
                                  obtain ⟨ji31, hji31⟩ : ∃ j_ : Int, (wrap64 (x13_3 - (rd l1 x46_2))) = j_ := ⟨_, rfl⟩
                                  replace H : (if 0 ≤ (ji31) then (if (ji31) < (x7_3.length : Int) then (spec_svGauss.l3 k3 a2 (x7_3.set (x13_3 : Int).toNat (wrap64 ((rd x7_3 x13_3) + (rd x7_3 (ji31))))) (rd l1 x46_2) (wrap64 (x13_3 + 1)) l1 (l1.length : Int) x46_2) else (none)) else (none)) = some r := by first | (rw [hji31] at H; exact H) | (simp only [hji31] at H ⊢; exact H)
                                  have hji31w : (IntKind.i64.wrap (x13_3 - (rd l1 x46_2))) = ji31 := (i64_w _).trans hji31
                                  by_cases c32 : 0 ≤ (ji31)
                                  · rw [if_pos c32] at H
                                    have c32b0 := decide_eq_true c32
                                    clear c32
                                    by_cases c33 : (ji31) < (x7_3.length : Int)
                                    · rw [if_pos c33] at H
                                      have c33b0 := decide_eq_true c33
                                      clear c33
                                      obtain ⟨y259, hy259⟩ : ∃ y_ : List Int, y_ = (x7_3.set (x13_3 : Int).toNat (wrap64 ((rd x7_3 x13_3) + (rd x7_3 (ji31))))) := ⟨_, rfl⟩
                                      replace H : (spec_svGauss.l3 k3 a2 y259 (rd l1 x46_2) (wrap64 (x13_3 + 1)) l1 (l1.length : Int) x46_2) = some r := by first | (rw [hy259]; with_reducible exact H) | (have H2_ := (Option.bind_some _ _).symm.trans H; rw [hy259]; with_reducible exact H2_) | (have H2_ := (Option.bind_some _ _).symm.trans H; with_reducible exact H2_) | with_reducible exact H | (rw [hy259]; exact H) | exact H
                                      have Ny259 := Aside0.mk hy259
                                      clear hy259
                                      have H' := Aside0.mk H
                                      clear H
                                      try go_wp2
                                      have n0_ := Aside0.mk (Kd.R_drew HO_7.out)
                                      have n1_ := Aside0.mk (below_drew1 HB.out)
                                      clear HO_7
                                      clear HB
                                      have HO_7 := n0_
                                      have HB := n1_
                                      clear n0_ n1_
                                      have p257 : 0 ≤ (x13_3 : Int) := of_decide_eq_true (by first | (with_reducible assumption) | assumption)
                                      have q257 : x13_3 < (x7_3.length : Int) := of_decide_eq_true (by first | (with_reducible assumption) | assumption)
                                      obtain ⟨ad257, e257, hx257_0⟩ := Kd.at_int (Kd.R_reads' HO_7.out).2.2 x13_3 p257 q257
                                      obtain rfl : (⟨go8, 0, none⟩ : Addr) = ad257 := (by injection e257)
                                      (first | simp only [add_plain] at hx257_0 | simp only [add_at] at hx257_0 | simp only [Addr.add, Nat.zero_add] at hx257_0 | skip)
                                      replace p257 := eq_true p257
                                      replace q257 := eq_true q257
                                      have p258 : 0 ≤ ((ji31) : Int) := of_decide_eq_true (by first | (with_reducible assumption) | assumption)
                                      have q258 : (ji31) < (x7_3.length : Int) := of_decide_eq_true (by first | (with_reducible assumption) | assumption)
                                      obtain ⟨ad258, e258, hx258_0⟩ := Kd.at_int (Kd.R_reads' HO_7.out).2.2 (ji31) p258 q258
                                      obtain rfl : (⟨go8, 0, none⟩ : Addr) = ad258 := (by injection e258)
                                      (first | simp only [add_plain] at hx258_0 | simp only [add_at] at hx258_0 | simp only [Addr.add, Nat.zero_add] at hx258_0 | skip)
                                      replace p258 := eq_true p258
                                      replace q258 := eq_true q258
                                      have p34 : 0 ≤ (x13_3 : Int) := of_decide_eq_true (by first | (with_reducible assumption) | assumption)
                                      have q34 : (x13_3 : Int) < ((x7_3.length : Int) : Int) := of_decide_eq_true (by first | (with_reducible assumption) | assumption)
                                      obtain ⟨hx34_0, hf34_0⟩ := Kd.R_celln 0 HO_7.out (x13_3 : Int) p34 q34
                                      replace p34 := eq_true p34
                                      replace q34 := eq_true q34
                                      have HP36 := Kd.R_putn HO_7.out (x13_3 : Int) (wrap64 ((rd x7_3 x13_3) + (rd x7_3 (ji31))))
                                      rw [← Ny259.out] at HP36
                                      have HQ36 := Aside0.mk HP36
                                      clear HP36
                                      refine sU (n := 13) (S := fun w' => w'.cell? ⟨go8, (x13_3).toNat, none⟩ = some (.int .i64 (rd x7_3 x13_3)) ∧ w'.cell? ⟨go8, ((ji31)).toNat, none⟩ = some (.int .i64 (rd x7_3 (ji31)))) (ds := [12]) ⟨hx257_0, hx258_0⟩ (fun hHeld => ?_); refine with_tabW spec_svGauss.tab17 spec_svGauss.bits17 (fun HT_ HW_ => ?_)
                                      generalize wr.drew = w35 at HO_7 HB HQ36 hf34_0 hx257_0 hx258_0 hx34_0 hHeld ⊢
                                      refine pU 0 56 ?_
                                      refine pU 1 57 ?_
                                      refine pU 2 58 ?_
                                      refine pU 4 60 ?_
                                      refine pU 5 61 ?_
                                      refine pU 6 62 ?_
                                      refine pU 7 63 ?_
                                      refine pU 8 64 ?_
                                      refine tW 3 59 hHeld ?_
                                      refine tW 9 65 hHeld ?_
                                      refine pU 10 66 ?_
                                      refine pU 11 67 ?_
                                      refine lU 12 none fun K hK => ?_
                                      refine sK ?_
                                      refine hK.out _ _ ?_
                                      clear hK K
                                      refine dU ?_
                                      try go_wp2
                                      (try simp only [← hl7_3])
                                      go_roundg k3
                                      case measure => have := HK1.out; have := HK2.out; have := HK3.out; omega
                                      case rel => exact ⟨(y259), (wrap64 (x13_3 + 1)), (by first | rfl | (simp; done) | (simp [*]; done)), H', ⟨by have := HK1.out; have := HK2.out; have := HK3.out; omega⟩, ⟨by (try simp only [hl7_1]); (try simp only [hl7_2]); (try simp only [hl7_3]); (with_reducible repeat (first | apply Kd.R_alloc | apply Kd.R_drewN | apply Kd.R_drew)); exact HQ36.out⟩, ⟨(vB HB)⟩⟩
                                    · rw [if_neg c33] at H
                                      exact absurd H (by simp)
                                  · rw [if_neg c32] at H
                                    exact absurd H (by simp)
                                · rw [if_neg c30] at H
                                  exact absurd H (by simp)
                              · rw [if_neg c29] at H
                                exact absurd H (by simp)
                            · rw [if_neg c28] at H
                              have c28b0 := decide_eq_false c28
                              clear c28
                              have H' := Aside0.mk H
                              clear H
                              go_wp2
                              (try simp only [← hl7_2, ← hl7_3])
                              go_roundg k3
                              case measure => have := HK1.out; have := HK2.out; have := HK3.out; omega
                              case rel => exact ⟨(x7_3), (wrap64 (x46_2 + 1)), (by first | rfl | (simp; done) | (simp [*]; done)), H', ⟨by have := HK1.out; have := HK2.out; have := HK3.out; omega⟩, ⟨by (try simp only [hl7_1]); (try simp only [hl7_2]); (try simp only [hl7_3]); (with_reducible repeat (first | apply Kd.R_alloc | apply Kd.R_drewN | apply Kd.R_drew)); exact HO_7.out⟩, ⟨uB HB⟩⟩
                      · rw [if_neg c27] at H
                        exact absurd H (by simp)
                    · rw [if_neg c26] at H
                      exact absurd H (by simp)
                  · rw [if_neg c25] at H
                    have c25b0 := decide_eq_false c25
                    clear c25
                    obtain rfl := Option.some.inj H
                    go_wp2
                    go_ret
                    exact ⟨_, by first | rfl | (simp [errW_none, errW_some] <;> rfl) | (simp only [← hji4]; first | rfl | (simp [errW_none, errW_some] <;> rfl)) | (simp [*, errW_none, errW_some] <;> rfl), uR HO_7, uB HB⟩
      · rw [if_neg c7] at H
        exact absurd H (by simp)
    · rw [if_neg c6] at H
      exact absurd H (by simp)
  · rw [if_neg c5] at H
    exact absurd H (by simp)
end Go.Proofs.YtkgngggppcmpfaaGreat.L
end
