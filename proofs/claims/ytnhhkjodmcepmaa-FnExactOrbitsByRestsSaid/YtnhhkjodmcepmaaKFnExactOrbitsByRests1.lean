/- Laws about the given program: the law FnExactOrbitsByRests answers true for every input that its row lets in; no condition is added to the given statement. Contracts of the Go functions that it reaches, and the plain proof over lists. -/
import Derived.WalkKit
import Derived.Test.YtnhhkjodmcepmaaWFnExactOrbitsByRests0
import Derived.Test.YtnhhkjodmcepmaaKFnExactOrbitsByRests0
section
namespace Go.Proofs.Ytnhhkjodmcepmaa.L
open Go.RowKit Go.Proofs.YtnhhkjodmcepmaaW.PrintWords Go.Proofs.YtnhhkjodmcepmaaW.PrintLast Go.Proofs.YtnhhkjodmcepmaaW.PrintMore
attribute [local go_sem] max2_int min2_int max_two min_two max_three min_three max_four min_four
set_option linter.unusedVariables false
set_option linter.unusedSimpArgs false
mutual
def laws_FnExactOrbitsByRests.j0 : Nat → List Int → List Int → Bool → List Int → List Int → Bool → Bool → Option (Bool)
  | 0, _, _, _, _, _, _, _ => none
  | k + 1, x0, x3, x4, x5, x6, x7, x37 => if x37 = true then (some false) else ((laws_toIntS.f k x0).bind fun t148 => ((laws_eqIntS.f k x5 t148).bind fun t151 => (if t151 = true then ((laws_markIntS.f k x5 1).bind fun bt152 => (if bt152.1 < 0 then (laws_FnExactOrbitsByRests.j1 k x0 x3 x4 x6 true) else ((laws_eqIntS.f k x6 x3).bind fun t154 => (if t154 = true then (laws_FnExactOrbitsByRests.j1 k x0 x3 x4 x6 (x7 != x4)) else (laws_FnExactOrbitsByRests.j1 k x0 x3 x4 x6 true))))) else (some false))))
def laws_FnExactOrbitsByRests.j1 : Nat → List Int → List Int → Bool → List Int → Bool → Option (Bool)
  | 0, _, _, _, _, _ => none
  | k + 1, x0, x3, x4, x6, x58 => if x58 = true then (some false) else ((laws_markIntS.f k x6 1).bind fun bt155 => ((laws_heldIntS.f k bt155.2 1).bind fun t157 => (if t157 < 0 then (some false) else (if t157 = bt155.1 then ((laws_toIntS.f k x0).bind fun t158 => ((impl_OrbitsByRests.f k t158).bind fun bt161 => ((laws_eqIntS.f k bt161.1 x3).bind fun t165 => (if t165 = true then (laws_FnExactOrbitsByRests.j2 k bt155.2 bt155.1 (bt161.2 != x4)) else (laws_FnExactOrbitsByRests.j2 k bt155.2 bt155.1 true))))) else (some false)))))
def laws_FnExactOrbitsByRests.j2 : Nat → List Int → Int → Bool → Option (Bool)
  | 0, _, _, _ => none
  | k + 1, x6, x9, x84 => if x84 = true then (some false) else ((laws_heldIntS.f k x6 1).bind fun t166 => (if t166 < 0 then (some false) else (if t166 = x9 then (some true) else (some false))))
end
def laws_FnExactOrbitsByRests.f (k : Nat) (l0 : List Int) : Option (Bool) := if (l0.length : Int) > 1048576 then (some true) else ((laws_toIntS.f k l0).bind fun t133 => ((spec_OrbitsByRests.f k t133).bind fun bt136 => ((laws_toIntS.f k l0).bind fun t140 => ((impl_OrbitsByRests.f k t140).bind fun bt143 => ((laws_eqIntS.f k bt143.1 bt136.1).bind fun t147 => (if t147 = true then (laws_FnExactOrbitsByRests.j0 k l0 bt136.1 bt136.2 t140 bt143.1 bt143.2 (bt143.2 != bt136.2)) else (laws_FnExactOrbitsByRests.j0 k l0 bt136.1 bt136.2 t140 bt143.1 bt143.2 true)))))))
theorem laws_FnExactOrbitsByRests.mono_l : ∀ k, (∀ y0 y1 y2 y3 y4 y5 y6, LeO (laws_FnExactOrbitsByRests.j0 k y0 y1 y2 y3 y4 y5 y6) (laws_FnExactOrbitsByRests.j0 (k + 1) y0 y1 y2 y3 y4 y5 y6)) ∧ (∀ y0 y1 y2 y3 y4, LeO (laws_FnExactOrbitsByRests.j1 k y0 y1 y2 y3 y4) (laws_FnExactOrbitsByRests.j1 (k + 1) y0 y1 y2 y3 y4)) ∧ (∀ y0 y1 y2, LeO (laws_FnExactOrbitsByRests.j2 k y0 y1 y2) (laws_FnExactOrbitsByRests.j2 (k + 1) y0 y1 y2))
  | 0 => ⟨fun _ _ _ _ _ _ _ r h => by simp [laws_FnExactOrbitsByRests.j0] at h, fun _ _ _ _ _ r h => by simp [laws_FnExactOrbitsByRests.j1] at h, fun _ _ _ r h => by simp [laws_FnExactOrbitsByRests.j2] at h⟩
  | k + 1 => by
    obtain ⟨ih0, ih1, ih2⟩ := laws_FnExactOrbitsByRests.mono_l k
    refine ⟨?_, ?_, ?_⟩
    · intro y0 y1 y2 y3 y4 y5 y6
      unfold laws_FnExactOrbitsByRests.j0
      repeat' first
      | (with_reducible exact ih0 _ _ _ _ _ _ _)
      | (with_reducible exact ih1 _ _ _ _ _)
      | (with_reducible exact ih2 _ _ _)
      | (with_reducible exact impl_OrbitsByRests.mono _ _)
      | (with_reducible exact laws_eqIntS.mono _ _ _)
      | (with_reducible exact laws_heldIntS.mono _ _ _)
      | (with_reducible exact laws_markIntS.mono _ _ _)
      | (with_reducible exact laws_toIntS.mono _ _)
      | (with_reducible exact spec_OrbitsByRests.mono _ _)
      | (with_reducible exact LeO.refl _)
      | (with_reducible exact LeO.none _)
      | (with_reducible refine LeO.ite ?_ ?_)
      | (with_reducible refine LeO.bind ?_ (fun _ => ?_))
      | exact ih0 _ _ _ _ _ _ _
      | exact ih1 _ _ _ _ _
      | exact ih2 _ _ _
      | exact impl_OrbitsByRests.mono _ _
      | exact laws_eqIntS.mono _ _ _
      | exact laws_heldIntS.mono _ _ _
      | exact laws_markIntS.mono _ _ _
      | exact laws_toIntS.mono _ _
      | exact spec_OrbitsByRests.mono _ _
      | exact LeO.none _
      | refine LeO.ite ?_ ?_
      | refine LeO.bind ?_ (fun _ => ?_)
    · intro y0 y1 y2 y3 y4
      unfold laws_FnExactOrbitsByRests.j1
      repeat' first
      | (with_reducible exact ih0 _ _ _ _ _ _ _)
      | (with_reducible exact ih1 _ _ _ _ _)
      | (with_reducible exact ih2 _ _ _)
      | (with_reducible exact impl_OrbitsByRests.mono _ _)
      | (with_reducible exact laws_eqIntS.mono _ _ _)
      | (with_reducible exact laws_heldIntS.mono _ _ _)
      | (with_reducible exact laws_markIntS.mono _ _ _)
      | (with_reducible exact laws_toIntS.mono _ _)
      | (with_reducible exact spec_OrbitsByRests.mono _ _)
      | (with_reducible exact LeO.refl _)
      | (with_reducible exact LeO.none _)
      | (with_reducible refine LeO.ite ?_ ?_)
      | (with_reducible refine LeO.bind ?_ (fun _ => ?_))
      | exact ih0 _ _ _ _ _ _ _
      | exact ih1 _ _ _ _ _
      | exact ih2 _ _ _
      | exact impl_OrbitsByRests.mono _ _
      | exact laws_eqIntS.mono _ _ _
      | exact laws_heldIntS.mono _ _ _
      | exact laws_markIntS.mono _ _ _
      | exact laws_toIntS.mono _ _
      | exact spec_OrbitsByRests.mono _ _
      | exact LeO.none _
      | refine LeO.ite ?_ ?_
      | refine LeO.bind ?_ (fun _ => ?_)
    · intro y0 y1 y2
      unfold laws_FnExactOrbitsByRests.j2
      repeat' first
      | (with_reducible exact ih0 _ _ _ _ _ _ _)
      | (with_reducible exact ih1 _ _ _ _ _)
      | (with_reducible exact ih2 _ _ _)
      | (with_reducible exact impl_OrbitsByRests.mono _ _)
      | (with_reducible exact laws_eqIntS.mono _ _ _)
      | (with_reducible exact laws_heldIntS.mono _ _ _)
      | (with_reducible exact laws_markIntS.mono _ _ _)
      | (with_reducible exact laws_toIntS.mono _ _)
      | (with_reducible exact spec_OrbitsByRests.mono _ _)
      | (with_reducible exact LeO.refl _)
      | (with_reducible exact LeO.none _)
      | (with_reducible refine LeO.ite ?_ ?_)
      | (with_reducible refine LeO.bind ?_ (fun _ => ?_))
      | exact ih0 _ _ _ _ _ _ _
      | exact ih1 _ _ _ _ _
      | exact ih2 _ _ _
      | exact impl_OrbitsByRests.mono _ _
      | exact laws_eqIntS.mono _ _ _
      | exact laws_heldIntS.mono _ _ _
      | exact laws_markIntS.mono _ _ _
      | exact laws_toIntS.mono _ _
      | exact spec_OrbitsByRests.mono _ _
      | exact LeO.none _
      | refine LeO.ite ?_ ?_
      | refine LeO.bind ?_ (fun _ => ?_)
theorem laws_FnExactOrbitsByRests.mono : ∀ a0 k, LeO (laws_FnExactOrbitsByRests.f k a0) (laws_FnExactOrbitsByRests.f (k + 1) a0) := by
  intro a0 k
  obtain ⟨ih0, ih1, ih2⟩ := laws_FnExactOrbitsByRests.mono_l k
  unfold laws_FnExactOrbitsByRests.f
  repeat' first
      | (with_reducible exact ih0 _ _ _ _ _ _ _)
      | (with_reducible exact ih1 _ _ _ _ _)
      | (with_reducible exact ih2 _ _ _)
      | (with_reducible exact impl_OrbitsByRests.mono _ _)
      | (with_reducible exact laws_eqIntS.mono _ _ _)
      | (with_reducible exact laws_heldIntS.mono _ _ _)
      | (with_reducible exact laws_markIntS.mono _ _ _)
      | (with_reducible exact laws_toIntS.mono _ _)
      | (with_reducible exact spec_OrbitsByRests.mono _ _)
      | (with_reducible exact LeO.refl _)
      | (with_reducible exact LeO.none _)
      | (with_reducible refine LeO.ite ?_ ?_)
      | (with_reducible refine LeO.bind ?_ (fun _ => ?_))
      | exact ih0 _ _ _ _ _ _ _
      | exact ih1 _ _ _ _ _
      | exact ih2 _ _ _
      | exact impl_OrbitsByRests.mono _ _
      | exact laws_eqIntS.mono _ _ _
      | exact laws_heldIntS.mono _ _ _
      | exact laws_markIntS.mono _ _ _
      | exact laws_toIntS.mono _ _
      | exact spec_OrbitsByRests.mono _ _
      | exact LeO.none _
      | refine LeO.ite ?_ ?_
      | refine LeO.bind ?_ (fun _ => ?_)
set_option maxHeartbeats 8000000 in
set_option maxRecDepth 100000 in
theorem laws_FnExactOrbitsByRests.calls (k : Nat) (A0 : Option Addr) (c0 : Nat) (l0 : List Int) (r : Bool) (w : World) (hr0 : Kd.C (Kd.int .i64) w A0 l0.length l0) (hc0 : l0.length ≤ c0) (h : laws_FnExactOrbitsByRests.f k l0 = some r) :
    Calls Try.prog 3 #[.slice A0 l0.length c0] w fun e w' => e = .returned (.bool r) ∧ Below w.heap.size w w' := by
  have HR0 := Aside0.mk hr0
  have HC0 := Aside0.mk hc0
  clear hr0 hc0
  have HB := Aside0.mk (Below.refl w.heap.size w)
  have H : (if (l0.length : Int) > 1048576 then (some true) else ((laws_toIntS.f k l0).bind fun t133 => ((spec_OrbitsByRests.f k t133).bind fun bt136 => ((laws_toIntS.f k l0).bind fun t140 => ((impl_OrbitsByRests.f k t140).bind fun bt143 => ((laws_eqIntS.f k bt143.1 bt136.1).bind fun t147 => (if t147 = true then (laws_FnExactOrbitsByRests.j0 k l0 bt136.1 bt136.2 t140 bt143.1 bt143.2 (bt143.2 != bt136.2)) else (laws_FnExactOrbitsByRests.j0 k l0 bt136.1 bt136.2 t140 bt143.1 bt143.2 true)))))))) = some r := h
  clear h
  by_cases c2 : (l0.length : Int) > 1048576
  · rw [if_pos c2] at H
    have c2b0 : decide (1048576 < (l0.length : Int)) = true := decide_eq_true c2
    have c2b1 : decide (1048576 < l0.length) = true := decide_eq_true (by omega)
    clear c2
    obtain rfl := Option.some.inj H
    go_enter Try.func3, Try.ntmps3
    go_wp2
    go_ret
    exact ⟨by first | rfl | (simp [errW_none, errW_some] <;> rfl) | (simp [*, errW_none, errW_some] <;> rfl), by repeat (first | (with_reducible first | exact HB.out | apply below_alloc | apply pw_below_drewN | apply below_drew1) | exact HB.out)⟩
  · rw [if_neg c2] at H
    have c2b0 : decide (1048576 < (l0.length : Int)) = false := decide_eq_false c2
    have c2b1 : decide (1048576 < l0.length) = false := decide_eq_false (by omega)
    clear c2
    replace H := Option.bind_eq_some_iff.mp H
    obtain ⟨t133, A30, H⟩ := H
    replace H : ((spec_OrbitsByRests.f k t133).bind fun bt136 => ((laws_toIntS.f k l0).bind fun t140 => ((impl_OrbitsByRests.f k t140).bind fun bt143 => ((laws_eqIntS.f k bt143.1 bt136.1).bind fun t147 => (if t147 = true then (laws_FnExactOrbitsByRests.j0 k l0 bt136.1 bt136.2 t140 bt143.1 bt143.2 (bt143.2 != bt136.2)) else (laws_FnExactOrbitsByRests.j0 k l0 bt136.1 bt136.2 t140 bt143.1 bt143.2 true)))))) = some r := H
    have A3 := Aside0.mk A30
    clear A30
    replace H := Option.bind_eq_some_iff.mp H
    obtain ⟨⟨t136, t137⟩, A40, H⟩ := H
    replace H : ((laws_toIntS.f k l0).bind fun t140 => ((impl_OrbitsByRests.f k t140).bind fun bt143 => ((laws_eqIntS.f k bt143.1 t136).bind fun t147 => (if t147 = true then (laws_FnExactOrbitsByRests.j0 k l0 t136 t137 t140 bt143.1 bt143.2 (bt143.2 != t137)) else (laws_FnExactOrbitsByRests.j0 k l0 t136 t137 t140 bt143.1 bt143.2 true))))) = some r := H
    have A4 := Aside0.mk A40
    clear A40
    replace H := Option.bind_eq_some_iff.mp H
    obtain ⟨t140, A50, H⟩ := H
    replace H : ((impl_OrbitsByRests.f k t140).bind fun bt143 => ((laws_eqIntS.f k bt143.1 t136).bind fun t147 => (if t147 = true then (laws_FnExactOrbitsByRests.j0 k l0 t136 t137 t140 bt143.1 bt143.2 (bt143.2 != t137)) else (laws_FnExactOrbitsByRests.j0 k l0 t136 t137 t140 bt143.1 bt143.2 true)))) = some r := H
    have A5 := Aside0.mk A50
    clear A50
    replace H := Option.bind_eq_some_iff.mp H
    obtain ⟨⟨t143, t144⟩, A60, H⟩ := H
    replace H : ((laws_eqIntS.f k t143 t136).bind fun t147 => (if t147 = true then (laws_FnExactOrbitsByRests.j0 k l0 t136 t137 t140 t143 t144 (t144 != t137)) else (laws_FnExactOrbitsByRests.j0 k l0 t136 t137 t140 t143 t144 true))) = some r := H
    have A6 := Aside0.mk A60
    clear A60
    have HC7 := Aside0.mk H
    clear H
    go_enter Try.func3, Try.ntmps3
    go_upto_region 6 with (first | ((with_reducible refine gate_callee (f := 7) rfl ?_); refine goesL_ (some 18) rfl rfl Try.func7 (by kernel_rfl) rfl #[.slice A0 l0.length c0] rfl (by (try simp only [List.map_toArray, List.map_cons, List.map_nil]); first | done | rfl | (simp only [List.length_drop, List.length_take]; rfl)) ?_; (with_reducible refine (laws_toIntS.calls k _ _ l0 t133 _ ?side1 ?side2 A3.out).mono ?_); (case side1 => repeat (first | exact HR0.out | (with_reducible refine Kd.C_alloc ?_ _) | (with_reducible refine Kd.C_drewN ?_ _) | (with_reducible refine Kd.C_drew ?_))); (case side2 => exact HC0.out); rintro e w8 ⟨v134, rfl, ho0, hb⟩; refine ⟨_, rfl, ?_⟩; have n0_ := Aside0.mk (Kd.R_lower ho0 (below_size (by repeat (first | (with_reducible first | exact HB.out | apply below_alloc | apply pw_below_drewN | apply below_drew1) | exact HB.out)))); have n1_ := Aside0.mk (below_step (by repeat (first | (with_reducible first | exact HB.out | apply below_alloc | apply pw_below_drewN | apply below_drew1) | exact HB.out)) hb); clear HB; have HO135 := n0_; have HB := n1_; clear n0_ n1_; (try clear hb); (try clear hb2); (try clear hk); (try clear hi); (try clear ho0); obtain ⟨Ao9, co9, eo9⟩ := Kd.R_slice HO135.out; subst eo9) | ((with_reducible refine gate_callee (f := 6) rfl ?_); refine goesL_ (some 19) rfl rfl Try.func6 (by kernel_rfl) rfl #[.slice Ao9 t133.length co9] rfl (by (try simp only [List.map_toArray, List.map_cons, List.map_nil]); first | done | rfl | (simp only [List.length_drop, List.length_take]; rfl)) ?_; (with_reducible refine (spec_OrbitsByRests.calls k _ _ t133 t136 t137 _ ?side1 ?side2 A4.out).mono ?_); (case side1 => repeat (first | exact (Kd.R_reads' HO135.out).2.2 | (with_reducible refine Kd.C_alloc ?_ _) | (with_reducible refine Kd.C_drewN ?_ _) | (with_reducible refine Kd.C_drew ?_))); (case side2 => exact (Kd.R_reads' HO135.out).2.1); rintro e w10 ⟨v138, rfl, ho0, hb⟩; refine ⟨_, rfl, ?_⟩; have n0_ := Aside0.mk (Kd.R_elder' (by (with_reducible repeat (first | apply Kd.R_alloc | apply Kd.R_drewN | apply Kd.R_drew)); exact HO135.out) (Kd.R_base ho0) hb); have n1_ := Aside0.mk (Kd.R_lower (Kd.R_new' ho0 (Kd.R_lt (by (with_reducible repeat (first | apply Kd.R_alloc | apply Kd.R_drewN | apply Kd.R_drew)); exact HO135.out))) (below_size (by repeat (first | (with_reducible first | exact HB.out | apply below_alloc | apply pw_below_drewN | apply below_drew1) | exact HB.out)))); have n2_ := Aside0.mk (below_step (by repeat (first | (with_reducible first | exact HB.out | apply below_alloc | apply pw_below_drewN | apply below_drew1) | exact HB.out)) hb); clear HO135; clear HB; have HO135 := n0_; have HO139 := n1_; have HB := n2_; clear n0_ n1_ n2_; (try clear hb); (try clear hb2); (try clear hk); (try clear hi); (try clear ho0)) | ((with_reducible refine gate_callee (f := 7) rfl ?_); refine goesL_ (some 23) rfl rfl Try.func7 (by kernel_rfl) rfl #[.slice A0 l0.length c0] rfl (by (try simp only [List.map_toArray, List.map_cons, List.map_nil]); first | done | rfl | (simp only [List.length_drop, List.length_take]; rfl)) ?_; (with_reducible refine (laws_toIntS.calls k _ _ l0 t140 _ ?side1 ?side2 A5.out).mono ?_); (case side1 => repeat (first | exact (Kd.C_below HR0.out HB.out) | (with_reducible refine Kd.C_alloc ?_ _) | (with_reducible refine Kd.C_drewN ?_ _) | (with_reducible refine Kd.C_drew ?_))); (case side2 => exact HC0.out); rintro e w11 ⟨v141, rfl, ho0, hb⟩; refine ⟨_, rfl, ?_⟩; have n0_ := Aside0.mk (Kd.R_elder' (by (with_reducible repeat (first | apply Kd.R_alloc | apply Kd.R_drewN | apply Kd.R_drew)); exact HO135.out) (Kd.R_base ho0) hb); have n1_ := Aside0.mk (Kd.R_elder' (by (with_reducible repeat (first | apply Kd.R_alloc | apply Kd.R_drewN | apply Kd.R_drew)); exact HO139.out) (Kd.R_base ho0) hb); have n2_ := Aside0.mk (Kd.R_lower (Kd.R_new' (Kd.R_new' ho0 (Kd.R_lt (by (with_reducible repeat (first | apply Kd.R_alloc | apply Kd.R_drewN | apply Kd.R_drew)); exact HO135.out))) (Kd.R_lt (by (with_reducible repeat (first | apply Kd.R_alloc | apply Kd.R_drewN | apply Kd.R_drew)); exact HO139.out))) (below_size (by repeat (first | (with_reducible first | exact HB.out | apply below_alloc | apply pw_below_drewN | apply below_drew1) | exact HB.out)))); have n3_ := Aside0.mk (below_step (by repeat (first | (with_reducible first | exact HB.out | apply below_alloc | apply pw_below_drewN | apply below_drew1) | exact HB.out)) hb); clear HO135; clear HO139; clear HB; have HO135 := n0_; have HO139 := n1_; have HO142 := n2_; have HB := n3_; clear n0_ n1_ n2_ n3_; (try clear hb); (try clear hb2); (try clear hk); (try clear hi); (try clear ho0); obtain ⟨Ao12, co12, eo12⟩ := Kd.R_slice HO142.out; subst eo12) | ((with_reducible refine gate_callee (f := 8) rfl ?_); refine goesL_ (some 26) rfl rfl Try.func8 (by kernel_rfl) rfl #[.slice Ao12 t140.length co12] rfl (by (try simp only [List.map_toArray, List.map_cons, List.map_nil]); first | done | rfl | (simp only [List.length_drop, List.length_take]; rfl)) ?_; (with_reducible refine (impl_OrbitsByRests.calls k _ _ t140 t143 t144 _ ?side1 ?side2 A6.out).mono ?_); (case side1 => repeat (first | exact (Kd.R_reads' HO142.out).2.2 | (with_reducible refine Kd.C_alloc ?_ _) | (with_reducible refine Kd.C_drewN ?_ _) | (with_reducible refine Kd.C_drew ?_))); (case side2 => exact (Kd.R_reads' HO142.out).2.1); rintro e w13 ⟨v145, rfl, ho0, hb⟩; refine ⟨_, rfl, ?_⟩; have n0_ := Aside0.mk (Kd.R_elder' (by (with_reducible repeat (first | apply Kd.R_alloc | apply Kd.R_drewN | apply Kd.R_drew)); exact HO135.out) (Kd.R_base ho0) hb); have n1_ := Aside0.mk (Kd.R_elder' (by (with_reducible repeat (first | apply Kd.R_alloc | apply Kd.R_drewN | apply Kd.R_drew)); exact HO139.out) (Kd.R_base ho0) hb); have n2_ := Aside0.mk (Kd.R_elder' (by (with_reducible repeat (first | apply Kd.R_alloc | apply Kd.R_drewN | apply Kd.R_drew)); exact HO142.out) (Kd.R_base ho0) hb); have n3_ := Aside0.mk (Kd.R_lower (Kd.R_new' (Kd.R_new' (Kd.R_new' ho0 (Kd.R_lt (by (with_reducible repeat (first | apply Kd.R_alloc | apply Kd.R_drewN | apply Kd.R_drew)); exact HO135.out))) (Kd.R_lt (by (with_reducible repeat (first | apply Kd.R_alloc | apply Kd.R_drewN | apply Kd.R_drew)); exact HO139.out))) (Kd.R_lt (by (with_reducible repeat (first | apply Kd.R_alloc | apply Kd.R_drewN | apply Kd.R_drew)); exact HO142.out))) (below_size (by repeat (first | (with_reducible first | exact HB.out | apply below_alloc | apply pw_below_drewN | apply below_drew1) | exact HB.out)))); have n4_ := Aside0.mk (below_step (by repeat (first | (with_reducible first | exact HB.out | apply below_alloc | apply pw_below_drewN | apply below_drew1) | exact HB.out)) hb); clear HO135; clear HO139; clear HO142; clear HB; have HO135 := n0_; have HO139 := n1_; have HO142 := n2_; have HO146 := n3_; have HB := n4_; clear n0_ n1_ n2_ n3_ n4_; (try clear hb); (try clear hb2); (try clear hk); (try clear hi); (try clear ho0)))
    (try simp only [Act.put, List.setIfInBounds_toArray, List.set_cons_zero, List.set_cons_succ])
    go_cut [37] (fun v37 wc => ∃ (kq : Nat) (x37_6 : Bool), v37 = .bool x37_6 ∧ Aside0 (laws_FnExactOrbitsByRests.j0 kq l0 t136 t137 t140 t143 t144 x37_6 = some r) ∧ Aside0 (kq ≤ k) ∧ Aside0 (Kd.R (Kd.int .i64) 3 wc w.heap.size (fun k_ => some k_ ≠ ((.slice Ao12 t140.length co12) : Value).ownBlock ∧ some k_ ≠ (v145 : Value).ownBlock) v138 t136) ∧ Aside0 (Kd.R (Kd.int .i64) 3 wc w.heap.size (fun k_ => some k_ ≠ (v138 : Value).ownBlock ∧ some k_ ≠ (v145 : Value).ownBlock) (.slice Ao12 t140.length co12) t140) ∧ Aside0 (Kd.R (Kd.int .i64) 3 wc w.heap.size (fun k_ => some k_ ≠ (v138 : Value).ownBlock ∧ some k_ ≠ ((.slice Ao12 t140.length co12) : Value).ownBlock) v145 t143) ∧ Aside0 (Below w.heap.size w wc))
    case first =>
      have H := HC7.out
      clear HC7
      replace H := Option.bind_eq_some_iff.mp H
      obtain ⟨t147, A140, H⟩ := H
      replace H : (if t147 = true then (laws_FnExactOrbitsByRests.j0 k l0 t136 t137 t140 t143 t144 (t144 != t137)) else (laws_FnExactOrbitsByRests.j0 k l0 t136 t137 t140 t143 t144 true)) = some r := H
      have A14 := Aside0.mk A140
      clear A140
      by_cases c15 : t147 = true
      · subst c15
        have H1 : (laws_FnExactOrbitsByRests.j0 k l0 t136 t137 t140 t143 t144 (t144 != t137)) = some r := by rw [if_pos rfl] at H; exact H
        clear H
        have H := H1
        clear H1
        have H' := Aside0.mk H
        clear H
        obtain ⟨Ao16, co16, eo16⟩ := Kd.R_slice HO146.out
        subst eo16
        obtain ⟨Ao17, co17, eo17⟩ := Kd.R_slice HO139.out
        subst eo17
        go_wp2_with (first | ((with_reducible refine gate_callee (f := 9) rfl ?_); refine goesL_ (some 31) rfl rfl Try.func9 (by kernel_rfl) rfl #[.slice Ao16 t143.length co16, .slice Ao17 t136.length co17] rfl (by (try simp only [List.map_toArray, List.map_cons, List.map_nil]); first | done | rfl | (simp only [List.length_drop, List.length_take]; rfl)) ?_; (with_reducible refine (laws_eqIntS.calls k _ _ t143 _ _ t136 true _ ?side1 ?side2 ?side3 ?side4 A14.out).mono ?_); (case side1 => repeat (first | exact (Kd.R_reads' HO146.out).2.2 | (with_reducible refine Kd.C_alloc ?_ _) | (with_reducible refine Kd.C_drewN ?_ _) | (with_reducible refine Kd.C_drew ?_))); (case side2 => exact (Kd.R_reads' HO146.out).2.1); (case side3 => repeat (first | exact (Kd.R_reads' HO139.out).2.2 | (with_reducible refine Kd.C_alloc ?_ _) | (with_reducible refine Kd.C_drewN ?_ _) | (with_reducible refine Kd.C_drew ?_))); (case side4 => exact (Kd.R_reads' HO139.out).2.1); rintro e w' ⟨rfl, ⟨nd, rfl⟩⟩; refine ⟨_, rfl, ?_⟩))
        go_meet
        case rel => exact ⟨_, ((t144 != t137)), (by first | rfl | (simp; done) | (simp [*]; done)), H', ⟨by first | omega | exact Nat.le_refl _⟩, ⟨by (with_reducible repeat (first | apply Kd.R_alloc | apply Kd.R_drewN | apply Kd.R_drew)); exact Kd.R_mono HO139.out (fun _ hk => ⟨hk.1.2, hk.2⟩)⟩, ⟨by (with_reducible repeat (first | apply Kd.R_alloc | apply Kd.R_drewN | apply Kd.R_drew)); exact Kd.R_mono HO142.out (fun _ hk => ⟨hk.1.2, hk.2⟩)⟩, ⟨by (with_reducible repeat (first | apply Kd.R_alloc | apply Kd.R_drewN | apply Kd.R_drew)); exact Kd.R_mono HO146.out (fun _ hk => ⟨hk.1.2, hk.2⟩)⟩, ⟨by repeat (first | (with_reducible first | exact HB.out | apply below_alloc | apply pw_below_drewN | apply below_drew1) | exact HB.out)⟩⟩
      · replace c15 := Bool.eq_false_iff.mpr c15
        subst c15
        have H1 : (laws_FnExactOrbitsByRests.j0 k l0 t136 t137 t140 t143 t144 true) = some r := by rw [if_neg (show ¬ (false = true) by decide)] at H; exact H
        clear H
        have H := H1
        clear H1
        have H' := Aside0.mk H
        clear H
        obtain ⟨Ao18, co18, eo18⟩ := Kd.R_slice HO146.out
        subst eo18
        obtain ⟨Ao19, co19, eo19⟩ := Kd.R_slice HO139.out
        subst eo19
        go_wp2_with (first | ((with_reducible refine gate_callee (f := 9) rfl ?_); refine goesL_ (some 31) rfl rfl Try.func9 (by kernel_rfl) rfl #[.slice Ao18 t143.length co18, .slice Ao19 t136.length co19] rfl (by (try simp only [List.map_toArray, List.map_cons, List.map_nil]); first | done | rfl | (simp only [List.length_drop, List.length_take]; rfl)) ?_; (with_reducible refine (laws_eqIntS.calls k _ _ t143 _ _ t136 false _ ?side1 ?side2 ?side3 ?side4 A14.out).mono ?_); (case side1 => repeat (first | exact (Kd.R_reads' HO146.out).2.2 | (with_reducible refine Kd.C_alloc ?_ _) | (with_reducible refine Kd.C_drewN ?_ _) | (with_reducible refine Kd.C_drew ?_))); (case side2 => exact (Kd.R_reads' HO146.out).2.1); (case side3 => repeat (first | exact (Kd.R_reads' HO139.out).2.2 | (with_reducible refine Kd.C_alloc ?_ _) | (with_reducible refine Kd.C_drewN ?_ _) | (with_reducible refine Kd.C_drew ?_))); (case side4 => exact (Kd.R_reads' HO139.out).2.1); rintro e w' ⟨rfl, ⟨nd, rfl⟩⟩; refine ⟨_, rfl, ?_⟩))
        go_meet
        case rel => exact ⟨_, (true), (by first | rfl | (simp; done) | (simp [*]; done)), H', ⟨by first | omega | exact Nat.le_refl _⟩, ⟨by (with_reducible repeat (first | apply Kd.R_alloc | apply Kd.R_drewN | apply Kd.R_drew)); exact Kd.R_mono HO139.out (fun _ hk => ⟨hk.1.2, hk.2⟩)⟩, ⟨by (with_reducible repeat (first | apply Kd.R_alloc | apply Kd.R_drewN | apply Kd.R_drew)); exact Kd.R_mono HO142.out (fun _ hk => ⟨hk.1.2, hk.2⟩)⟩, ⟨by (with_reducible repeat (first | apply Kd.R_alloc | apply Kd.R_drewN | apply Kd.R_drew)); exact Kd.R_mono HO146.out (fun _ hk => ⟨hk.1.2, hk.2⟩)⟩, ⟨by repeat (first | (with_reducible first | exact HB.out | apply below_alloc | apply pw_below_drewN | apply below_drew1) | exact HB.out)⟩⟩
    case rest =>
      clear HC7
      try clear c1
      try clear c2
      try clear c2b0
      try clear c2b1
      try clear p2
      try clear c3
      try clear c6
      try clear c7
      try clear c8
      try clear c9
      try clear c15
      obtain ⟨kq, x37_6, rfl, HA, HJ6, HO_3, HO_5, HO_6, HB⟩ := hcut
      cases kq with
      | zero => exact absurd HA.out (by simp [laws_FnExactOrbitsByRests.j0])
      | succ kj6 =>
        have H := HA.out
        clear HA
        simp only [laws_FnExactOrbitsByRests.j0] at H
        by_cases c20 : x37_6 = true
        · subst c20
          have H1 : (some false) = some r := by rw [if_pos rfl] at H; exact H
          clear H
          have H := H1
          clear H1
          obtain rfl := Option.some.inj H
          go_wp2
          go_ret
          exact ⟨by first | rfl | (simp [errW_none, errW_some] <;> rfl) | (simp [*, errW_none, errW_some] <;> rfl), by repeat (first | (with_reducible first | exact HB.out | apply below_alloc | apply pw_below_drewN | apply below_drew1) | exact HB.out)⟩
        · replace c20 := Bool.eq_false_iff.mpr c20
          subst c20
          have H1 : ((laws_toIntS.f kj6 l0).bind fun t148 => ((laws_eqIntS.f kj6 t140 t148).bind fun t151 => (if t151 = true then ((laws_markIntS.f kj6 t140 1).bind fun bt152 => (if bt152.1 < 0 then (laws_FnExactOrbitsByRests.j1 kj6 l0 t136 t137 t143 true) else ((laws_eqIntS.f kj6 t143 t136).bind fun t154 => (if t154 = true then (laws_FnExactOrbitsByRests.j1 kj6 l0 t136 t137 t143 (t144 != t137)) else (laws_FnExactOrbitsByRests.j1 kj6 l0 t136 t137 t143 true))))) else (some false)))) = some r := by rw [if_neg (show ¬ (false = true) by decide)] at H; exact H
          clear H
          have H := H1
          clear H1
          replace H := Option.bind_eq_some_iff.mp H
          obtain ⟨t148, A210, H⟩ := H
          replace H : ((laws_eqIntS.f kj6 t140 t148).bind fun t151 => (if t151 = true then ((laws_markIntS.f kj6 t140 1).bind fun bt152 => (if bt152.1 < 0 then (laws_FnExactOrbitsByRests.j1 kj6 l0 t136 t137 t143 true) else ((laws_eqIntS.f kj6 t143 t136).bind fun t154 => (if t154 = true then (laws_FnExactOrbitsByRests.j1 kj6 l0 t136 t137 t143 (t144 != t137)) else (laws_FnExactOrbitsByRests.j1 kj6 l0 t136 t137 t143 true))))) else (some false))) = some r := H
          have A21 := Aside0.mk A210
          clear A210
          replace H := Option.bind_eq_some_iff.mp H
          obtain ⟨t151, A220, H⟩ := H
          replace H : (if t151 = true then ((laws_markIntS.f kj6 t140 1).bind fun bt152 => (if bt152.1 < 0 then (laws_FnExactOrbitsByRests.j1 kj6 l0 t136 t137 t143 true) else ((laws_eqIntS.f kj6 t143 t136).bind fun t154 => (if t154 = true then (laws_FnExactOrbitsByRests.j1 kj6 l0 t136 t137 t143 (t144 != t137)) else (laws_FnExactOrbitsByRests.j1 kj6 l0 t136 t137 t143 true))))) else (some false)) = some r := H
          have A22 := Aside0.mk A220
          clear A220
          by_cases c23 : t151 = true
          · subst c23
            have H1 : ((laws_markIntS.f kj6 t140 1).bind fun bt152 => (if bt152.1 < 0 then (laws_FnExactOrbitsByRests.j1 kj6 l0 t136 t137 t143 true) else ((laws_eqIntS.f kj6 t143 t136).bind fun t154 => (if t154 = true then (laws_FnExactOrbitsByRests.j1 kj6 l0 t136 t137 t143 (t144 != t137)) else (laws_FnExactOrbitsByRests.j1 kj6 l0 t136 t137 t143 true))))) = some r := by rw [if_pos rfl] at H; exact H
            clear H
            have H := H1
            clear H1
            replace H := Option.bind_eq_some_iff.mp H
            obtain ⟨⟨t152, t153⟩, A240, H⟩ := H
            replace H : (if t152 < 0 then (laws_FnExactOrbitsByRests.j1 kj6 l0 t136 t137 t143 true) else ((laws_eqIntS.f kj6 t143 t136).bind fun t154 => (if t154 = true then (laws_FnExactOrbitsByRests.j1 kj6 l0 t136 t137 t143 (t144 != t137)) else (laws_FnExactOrbitsByRests.j1 kj6 l0 t136 t137 t143 true)))) = some r := H
            have A24 := Aside0.mk A240
            clear A240
            have HC25 := Aside0.mk H
            clear H
            go_upto_region 12 with (first | ((with_reducible refine gate_callee (f := 7) rfl ?_); refine goesL_ (some 40) rfl rfl Try.func7 (by kernel_rfl) rfl #[.slice A0 l0.length c0] rfl (by (try simp only [List.map_toArray, List.map_cons, List.map_nil]); first | done | rfl | (simp only [List.length_drop, List.length_take]; rfl)) ?_; (with_reducible refine (laws_toIntS.calls kj6 _ _ l0 t148 _ ?side1 ?side2 A21.out).mono ?_); (case side1 => repeat (first | exact (Kd.C_below HR0.out HB.out) | (with_reducible refine Kd.C_alloc ?_ _) | (with_reducible refine Kd.C_drewN ?_ _) | (with_reducible refine Kd.C_drew ?_))); (case side2 => exact HC0.out); rintro e w26 ⟨v149, rfl, ho0, hb⟩; refine ⟨_, rfl, ?_⟩; have n0_ := Aside0.mk (Kd.R_elder' (by (with_reducible repeat (first | apply Kd.R_alloc | apply Kd.R_drewN | apply Kd.R_drew)); exact HO_3.out) (Kd.R_base ho0) hb); have n1_ := Aside0.mk (Kd.R_elder' (by (with_reducible repeat (first | apply Kd.R_alloc | apply Kd.R_drewN | apply Kd.R_drew)); exact HO_5.out) (Kd.R_base ho0) hb); have n2_ := Aside0.mk (Kd.R_elder' (by (with_reducible repeat (first | apply Kd.R_alloc | apply Kd.R_drewN | apply Kd.R_drew)); exact HO_6.out) (Kd.R_base ho0) hb); have n3_ := Aside0.mk (Kd.R_lower (Kd.R_new' (Kd.R_new' (Kd.R_new' ho0 (Kd.R_lt (by (with_reducible repeat (first | apply Kd.R_alloc | apply Kd.R_drewN | apply Kd.R_drew)); exact HO_3.out))) (Kd.R_lt (by (with_reducible repeat (first | apply Kd.R_alloc | apply Kd.R_drewN | apply Kd.R_drew)); exact HO_5.out))) (Kd.R_lt (by (with_reducible repeat (first | apply Kd.R_alloc | apply Kd.R_drewN | apply Kd.R_drew)); exact HO_6.out))) (below_size (by repeat (first | (with_reducible first | exact HB.out | apply below_alloc | apply pw_below_drewN | apply below_drew1) | exact HB.out)))); have n4_ := Aside0.mk (below_step (by repeat (first | (with_reducible first | exact HB.out | apply below_alloc | apply pw_below_drewN | apply below_drew1) | exact HB.out)) hb); clear HO_3; clear HO_5; clear HO_6; clear HB; have HO_3 := n0_; have HO_5 := n1_; have HO_6 := n2_; have HO150 := n3_; have HB := n4_; clear n0_ n1_ n2_ n3_ n4_; (try clear hb); (try clear hb2); (try clear hk); (try clear hi); (try clear ho0); obtain ⟨Ao27, co27, eo27⟩ := Kd.R_slice HO150.out; subst eo27) | ((with_reducible refine gate_callee (f := 9) rfl ?_); refine goesL_ (some 41) rfl rfl Try.func9 (by kernel_rfl) rfl #[.slice Ao12 t140.length co12, .slice Ao27 t148.length co27] rfl (by (try simp only [List.map_toArray, List.map_cons, List.map_nil]); first | done | rfl | (simp only [List.length_drop, List.length_take]; rfl)) ?_; (with_reducible refine (laws_eqIntS.calls kj6 _ _ t140 _ _ t148 true _ ?side1 ?side2 ?side3 ?side4 A22.out).mono ?_); (case side1 => repeat (first | exact (Kd.R_reads' HO_5.out).2.2 | (with_reducible refine Kd.C_alloc ?_ _) | (with_reducible refine Kd.C_drewN ?_ _) | (with_reducible refine Kd.C_drew ?_))); (case side2 => exact (Kd.R_reads' HO_5.out).2.1); (case side3 => repeat (first | exact (Kd.R_reads' HO150.out).2.2 | (with_reducible refine Kd.C_alloc ?_ _) | (with_reducible refine Kd.C_drewN ?_ _) | (with_reducible refine Kd.C_drew ?_))); (case side4 => exact (Kd.R_reads' HO150.out).2.1); rintro e w' ⟨rfl, ⟨nd, rfl⟩⟩; refine ⟨_, rfl, ?_⟩) | ((with_reducible refine gate_callee (f := 10) rfl ?_); refine goesL_ (some 45) rfl rfl Try.func10 (by kernel_rfl) rfl #[.slice Ao12 t140.length co12, .int .i64 1] rfl (by (try simp only [List.map_toArray, List.map_cons, List.map_nil]); first | done | rfl | (simp only [List.length_drop, List.length_take]; rfl)) ?_; (with_reducible refine (laws_markIntS.calls kj6 (fun k_ => some k_ = (.slice Ao12 t140.length co12 : Value).ownBlock) (.slice Ao12 t140.length co12) t140 1 t152 t153 w _ ?side1 ?side2 A24.out).mono ?_); (case side1 => repeat (first | (with_reducible first | exact HB.out | apply below_alloc | apply pw_below_drewN | apply below_drew1) | exact HB.out)); (case side2 => exact Kd.R_tight rfl HO_5.out); rintro e w28 ⟨rfl, hy0, hb, hkp⟩; refine ⟨_, rfl, ?_⟩; have n0_ := Aside0.mk (Kd.R_mono (ok' := fun k_ => some k_ ≠ (.slice Ao12 t140.length co12 : Value).ownBlock ∧ some k_ ≠ (v145 : Value).ownBlock ∧ some k_ ≠ (.slice Ao27 t148.length co27 : Value).ownBlock) (Kd.R_keptB (HO_3.out) hkp (fun k_ hk_ hs_ => (hk_.1.1) hs_)) (fun k_ hk_ => ⟨hk_.1.1.1, hk_.1.1.2, hk_.1.2⟩)); have n1_ := Aside0.mk (Kd.R_reok rfl hy0 (fun k_ e_ => HO_5.out.1 k_ e_)); have n2_ := Aside0.mk (Kd.R_mono (ok' := fun k_ => some k_ ≠ (v138 : Value).ownBlock ∧ some k_ ≠ (.slice Ao12 t140.length co12 : Value).ownBlock ∧ some k_ ≠ (.slice Ao27 t148.length co27 : Value).ownBlock) (Kd.R_keptB (HO_6.out) hkp (fun k_ hk_ hs_ => (hk_.1.2) hs_)) (fun k_ hk_ => ⟨hk_.1.1.1, hk_.1.1.2, hk_.1.2⟩)); have n3_ := Aside0.mk (Kd.R_mono (ok' := fun k_ => some k_ ≠ (v138 : Value).ownBlock ∧ some k_ ≠ (.slice Ao12 t140.length co12 : Value).ownBlock ∧ some k_ ≠ (v145 : Value).ownBlock) (Kd.R_keptB (HO150.out) hkp (fun k_ hk_ hs_ => (hk_.1.2) hs_)) (fun k_ hk_ => ⟨hk_.1.1.1.2, hk_.1.1.2, hk_.1.2⟩)); have n4_ := Aside0.mk (hb); clear HO_3; clear HO_5; clear HO_6; clear HO150; clear HB; have HO_3 := n0_; have HO_5 := n1_; have HO_6 := n2_; have HO150 := n3_; have HB := n4_; clear n0_ n1_ n2_ n3_ n4_; (try clear hb); (try clear hkp); (try clear hy0)))
            (try simp only [Act.put, List.setIfInBounds_toArray, List.set_cons_zero, List.set_cons_succ])
            go_cut [58] (fun v58 wc => ∃ (kq : Nat) (x58_24 : Bool), v58 = .bool x58_24 ∧ Aside0 (laws_FnExactOrbitsByRests.j1 kq l0 t136 t137 t143 x58_24 = some r) ∧ Aside0 (kq ≤ kj6) ∧ Aside0 (Kd.R (Kd.int .i64) 3 wc w.heap.size (fun k_ => some k_ ≠ (v145 : Value).ownBlock) v138 t136) ∧ Aside0 (Kd.R (Kd.int .i64) 3 wc w.heap.size (fun k_ => some k_ ≠ (v138 : Value).ownBlock) v145 t143) ∧ Aside0 (Below w.heap.size w wc))
            case first =>
              have H := HC25.out
              clear HC25
              by_cases c29 : t152 < 0
              · rw [if_pos c29] at H
                have c29b0 : decide (t152 < 0) = true := decide_eq_true c29
                clear c29
                (first | rw [c29b0] | (simp only [i64_w, i32_w]; rw [c29b0]) | skip)
                have H' := Aside0.mk H
                clear H
                go_wp2
                go_meet
                case rel => exact ⟨_, (true), (by first | rfl | (simp; done) | (simp [*]; done)), H', ⟨by have := HJ6.out; first | omega | exact Nat.le_refl _⟩, ⟨by (with_reducible repeat (first | apply Kd.R_alloc | apply Kd.R_drewN | apply Kd.R_drew)); exact Kd.R_mono HO_3.out (fun _ hk => hk.2.1)⟩, ⟨by (with_reducible repeat (first | apply Kd.R_alloc | apply Kd.R_drewN | apply Kd.R_drew)); exact Kd.R_mono HO_6.out (fun _ hk => hk.1)⟩, ⟨by repeat (first | (with_reducible first | exact HB.out | apply below_alloc | apply pw_below_drewN | apply below_drew1) | exact HB.out)⟩⟩
              · rw [if_neg c29] at H
                have c29b0 : decide (t152 < 0) = false := decide_eq_false c29
                clear c29
                (first | rw [c29b0] | (simp only [i64_w, i32_w]; rw [c29b0]) | skip)
                replace H := Option.bind_eq_some_iff.mp H
                obtain ⟨t154, A300, H⟩ := H
                replace H : (if t154 = true then (laws_FnExactOrbitsByRests.j1 kj6 l0 t136 t137 t143 (t144 != t137)) else (laws_FnExactOrbitsByRests.j1 kj6 l0 t136 t137 t143 true)) = some r := H
                have A30 := Aside0.mk A300
                clear A300
                by_cases c31 : t154 = true
                · subst c31
                  have H1 : (laws_FnExactOrbitsByRests.j1 kj6 l0 t136 t137 t143 (t144 != t137)) = some r := by rw [if_pos rfl] at H; exact H
                  clear H
                  have H := H1
                  clear H1
                  have H' := Aside0.mk H
                  clear H
                  obtain ⟨Ao32, co32, eo32⟩ := Kd.R_slice HO_6.out
                  subst eo32
                  obtain ⟨Ao33, co33, eo33⟩ := Kd.R_slice HO_3.out
                  subst eo33
                  go_wp2_with (first | (go_at_call 9; (with_reducible refine (laws_eqIntS.calls kj6 _ _ t143 _ _ t136 true _ ?side1 ?side2 ?side3 ?side4 A30.out).mono ?_); (case side1 => repeat (first | exact (Kd.R_reads' HO_6.out).2.2 | (with_reducible refine Kd.C_alloc ?_ _) | (with_reducible refine Kd.C_drewN ?_ _) | (with_reducible refine Kd.C_drew ?_))); (case side2 => exact (Kd.R_reads' HO_6.out).2.1); (case side3 => repeat (first | exact (Kd.R_reads' HO_3.out).2.2 | (with_reducible refine Kd.C_alloc ?_ _) | (with_reducible refine Kd.C_drewN ?_ _) | (with_reducible refine Kd.C_drew ?_))); (case side4 => exact (Kd.R_reads' HO_3.out).2.1); rintro e w' ⟨rfl, ⟨nd, rfl⟩⟩))
                  go_meet
                  case rel => exact ⟨_, ((t144 != t137)), (by first | rfl | (simp; done) | (simp [*]; done)), H', ⟨by have := HJ6.out; first | omega | exact Nat.le_refl _⟩, ⟨by (with_reducible repeat (first | apply Kd.R_alloc | apply Kd.R_drewN | apply Kd.R_drew)); exact Kd.R_mono HO_3.out (fun _ hk => hk.2.1)⟩, ⟨by (with_reducible repeat (first | apply Kd.R_alloc | apply Kd.R_drewN | apply Kd.R_drew)); exact Kd.R_mono HO_6.out (fun _ hk => hk.1)⟩, ⟨by repeat (first | (with_reducible first | exact HB.out | apply below_alloc | apply pw_below_drewN | apply below_drew1) | exact HB.out)⟩⟩
                · replace c31 := Bool.eq_false_iff.mpr c31
                  subst c31
                  have H1 : (laws_FnExactOrbitsByRests.j1 kj6 l0 t136 t137 t143 true) = some r := by rw [if_neg (show ¬ (false = true) by decide)] at H; exact H
                  clear H
                  have H := H1
                  clear H1
                  have H' := Aside0.mk H
                  clear H
                  obtain ⟨Ao34, co34, eo34⟩ := Kd.R_slice HO_6.out
                  subst eo34
                  obtain ⟨Ao35, co35, eo35⟩ := Kd.R_slice HO_3.out
                  subst eo35
                  go_wp2_with (first | (go_at_call 9; (with_reducible refine (laws_eqIntS.calls kj6 _ _ t143 _ _ t136 false _ ?side1 ?side2 ?side3 ?side4 A30.out).mono ?_); (case side1 => repeat (first | exact (Kd.R_reads' HO_6.out).2.2 | (with_reducible refine Kd.C_alloc ?_ _) | (with_reducible refine Kd.C_drewN ?_ _) | (with_reducible refine Kd.C_drew ?_))); (case side2 => exact (Kd.R_reads' HO_6.out).2.1); (case side3 => repeat (first | exact (Kd.R_reads' HO_3.out).2.2 | (with_reducible refine Kd.C_alloc ?_ _) | (with_reducible refine Kd.C_drewN ?_ _) | (with_reducible refine Kd.C_drew ?_))); (case side4 => exact (Kd.R_reads' HO_3.out).2.1); rintro e w' ⟨rfl, ⟨nd, rfl⟩⟩))
                  go_meet
                  case rel => exact ⟨_, (true), (by first | rfl | (simp; done) | (simp [*]; done)), H', ⟨by have := HJ6.out; first | omega | exact Nat.le_refl _⟩, ⟨by (with_reducible repeat (first | apply Kd.R_alloc | apply Kd.R_drewN | apply Kd.R_drew)); exact Kd.R_mono HO_3.out (fun _ hk => hk.2.1)⟩, ⟨by (with_reducible repeat (first | apply Kd.R_alloc | apply Kd.R_drewN | apply Kd.R_drew)); exact Kd.R_mono HO_6.out (fun _ hk => hk.1)⟩, ⟨by repeat (first | (with_reducible first | exact HB.out | apply below_alloc | apply pw_below_drewN | apply below_drew1) | exact HB.out)⟩⟩
            case rest =>
              clear HC25
              try clear c1
              try clear c2
              try clear c2b0
              try clear c2b1
              try clear p2
              try clear c3
              try clear c6
              try clear c7
              try clear c8
              try clear c9
              try clear c10
              try clear c15
              try clear c20
              try clear c23
              try clear c29
              try clear c29b0
              try clear c31
              try clear p2
              obtain ⟨kq, x58_24, rfl, HA, HJ24, HO_3, HO_6, HB⟩ := hcut
              cases kq with
              | zero => exact absurd HA.out (by simp [laws_FnExactOrbitsByRests.j1])
              | succ kj24 =>
                have H := HA.out
                clear HA
                simp only [laws_FnExactOrbitsByRests.j1] at H
                by_cases c36 : x58_24 = true
                · subst c36
                  have H1 : (some false) = some r := by rw [if_pos rfl] at H; exact H
                  clear H
                  have H := H1
                  clear H1
                  obtain rfl := Option.some.inj H
                  go_wp2
                  go_ret
                  exact ⟨by first | rfl | (simp [errW_none, errW_some] <;> rfl) | (simp [*, errW_none, errW_some] <;> rfl), by repeat (first | (with_reducible first | exact HB.out | apply below_alloc | apply pw_below_drewN | apply below_drew1) | exact HB.out)⟩
                · replace c36 := Bool.eq_false_iff.mpr c36
                  subst c36
                  have H1 : ((laws_markIntS.f kj24 t143 1).bind fun bt155 => ((laws_heldIntS.f kj24 bt155.2 1).bind fun t157 => (if t157 < 0 then (some false) else (if t157 = bt155.1 then ((laws_toIntS.f kj24 l0).bind fun t158 => ((impl_OrbitsByRests.f kj24 t158).bind fun bt161 => ((laws_eqIntS.f kj24 bt161.1 t136).bind fun t165 => (if t165 = true then (laws_FnExactOrbitsByRests.j2 kj24 bt155.2 bt155.1 (bt161.2 != t137)) else (laws_FnExactOrbitsByRests.j2 kj24 bt155.2 bt155.1 true))))) else (some false))))) = some r := by rw [if_neg (show ¬ (false = true) by decide)] at H; exact H
                  clear H
                  have H := H1
                  clear H1
                  replace H := Option.bind_eq_some_iff.mp H
                  obtain ⟨⟨t155, t156⟩, A370, H⟩ := H
                  replace H : ((laws_heldIntS.f kj24 t156 1).bind fun t157 => (if t157 < 0 then (some false) else (if t157 = t155 then ((laws_toIntS.f kj24 l0).bind fun t158 => ((impl_OrbitsByRests.f kj24 t158).bind fun bt161 => ((laws_eqIntS.f kj24 bt161.1 t136).bind fun t165 => (if t165 = true then (laws_FnExactOrbitsByRests.j2 kj24 t156 t155 (bt161.2 != t137)) else (laws_FnExactOrbitsByRests.j2 kj24 t156 t155 true))))) else (some false)))) = some r := H
                  have A37 := Aside0.mk A370
                  clear A370
                  replace H := Option.bind_eq_some_iff.mp H
                  obtain ⟨t157, A380, H⟩ := H
                  replace H : (if t157 < 0 then (some false) else (if t157 = t155 then ((laws_toIntS.f kj24 l0).bind fun t158 => ((impl_OrbitsByRests.f kj24 t158).bind fun bt161 => ((laws_eqIntS.f kj24 bt161.1 t136).bind fun t165 => (if t165 = true then (laws_FnExactOrbitsByRests.j2 kj24 t156 t155 (bt161.2 != t137)) else (laws_FnExactOrbitsByRests.j2 kj24 t156 t155 true))))) else (some false))) = some r := H
                  have A38 := Aside0.mk A380
                  clear A380
                  by_cases c39 : t157 < 0
                  · rw [if_pos c39] at H
                    have c39b0 : decide (t157 < 0) = true := decide_eq_true c39
                    clear c39
                    obtain rfl := Option.some.inj H
                    obtain ⟨Ao40, co40, eo40⟩ := Kd.R_slice HO_6.out
                    subst eo40
                    go_wp2_with (first | ((with_reducible refine gate_callee (f := 10) rfl ?_); refine goesL_ (some 61) rfl rfl Try.func10 (by kernel_rfl) rfl #[.slice Ao40 t143.length co40, .int .i64 1] rfl (by (try simp only [List.map_toArray, List.map_cons, List.map_nil]); first | done | rfl | (simp only [List.length_drop, List.length_take]; rfl)) ?_; (with_reducible refine (laws_markIntS.calls kj24 (fun k_ => some k_ = (.slice Ao40 t143.length co40 : Value).ownBlock) (.slice Ao40 t143.length co40) t143 1 t155 t156 w _ ?side1 ?side2 A37.out).mono ?_); (case side1 => repeat (first | (with_reducible first | exact HB.out | apply below_alloc | apply pw_below_drewN | apply below_drew1) | exact HB.out)); (case side2 => exact Kd.R_tight rfl HO_6.out); rintro e w41 ⟨rfl, hy0, hb, hkp⟩; refine ⟨_, rfl, ?_⟩; have n0_ := Aside0.mk (Kd.R_mono (ok' := fun k_ => some k_ ≠ (.slice Ao40 t143.length co40 : Value).ownBlock) (Kd.R_keptB (HO_3.out) hkp (fun k_ hk_ hs_ => (hk_) hs_)) (fun k_ hk_ => hk_.1)); have n1_ := Aside0.mk (Kd.R_reok rfl hy0 (fun k_ e_ => HO_6.out.1 k_ e_)); have n2_ := Aside0.mk (hb); clear HO_3; clear HO_6; clear HB; have HO_3 := n0_; have HO_6 := n1_; have HB := n2_; clear n0_ n1_ n2_; (try clear hb); (try clear hkp); (try clear hy0)) | ((with_reducible refine gate_callee (f := 11) rfl ?_); refine goesL_ (some 64) rfl rfl Try.func11 (by kernel_rfl) rfl #[.slice Ao40 t156.length co40, .int .i64 1] rfl (by (try simp only [List.map_toArray, List.map_cons, List.map_nil]); first | done | (rw [show t156.length = t143.length from (Kd.R_reads' HO_6.out).1.symm] <;> rfl) | rfl | (simp only [List.length_drop, List.length_take]; rfl)) ?_; (with_reducible refine (laws_heldIntS.calls kj24 _ _ t156 1 t157 _ ?side1 ?side2 A38.out).mono ?_); (case side1 => repeat (first | exact (Kd.R_reads' HO_6.out).2.2 | (with_reducible refine Kd.C_alloc ?_ _) | (with_reducible refine Kd.C_drewN ?_ _) | (with_reducible refine Kd.C_drew ?_))); (case side2 => rw [show t156.length = t143.length from (Kd.R_reads' HO_6.out).1.symm]; exact (Kd.R_reads' HO_6.out).2.1); rintro e w' ⟨rfl, ⟨nd, rfl⟩⟩; refine ⟨_, rfl, ?_⟩))
                    go_ret
                    exact ⟨by first | rfl | (simp [errW_none, errW_some] <;> rfl) | (simp [*, errW_none, errW_some] <;> rfl), by repeat (first | (with_reducible first | exact HB.out | apply below_alloc | apply pw_below_drewN | apply below_drew1) | exact HB.out)⟩
                  · rw [if_neg c39] at H
                    have c39b0 : decide (t157 < 0) = false := decide_eq_false c39
                    clear c39
                    by_cases c42 : t157 = t155
                    · rw [if_pos c42] at H
                      have c42b0 : (t157 == t155) = true := beq_iff_eq.mpr c42
                      have c42b1 : (t157 != t155) = false := bne_eq_false_iff_eq.mpr c42
                      clear c42
                      replace H := Option.bind_eq_some_iff.mp H
                      obtain ⟨t158, A430, H⟩ := H
                      replace H : ((impl_OrbitsByRests.f kj24 t158).bind fun bt161 => ((laws_eqIntS.f kj24 bt161.1 t136).bind fun t165 => (if t165 = true then (laws_FnExactOrbitsByRests.j2 kj24 t156 t155 (bt161.2 != t137)) else (laws_FnExactOrbitsByRests.j2 kj24 t156 t155 true)))) = some r := H
                      have A43 := Aside0.mk A430
                      clear A430
                      replace H := Option.bind_eq_some_iff.mp H
                      obtain ⟨⟨t161, t162⟩, A440, H⟩ := H
                      replace H : ((laws_eqIntS.f kj24 t161 t136).bind fun t165 => (if t165 = true then (laws_FnExactOrbitsByRests.j2 kj24 t156 t155 (t162 != t137)) else (laws_FnExactOrbitsByRests.j2 kj24 t156 t155 true))) = some r := H
                      have A44 := Aside0.mk A440
                      clear A440
                      have HC45 := Aside0.mk H
                      clear H
                      obtain ⟨Ao46, co46, eo46⟩ := Kd.R_slice HO_6.out
                      subst eo46
                      go_upto_region 23 with (first | ((with_reducible refine gate_callee (f := 10) rfl ?_); refine goesL_ (some 61) rfl rfl Try.func10 (by kernel_rfl) rfl #[.slice Ao46 t143.length co46, .int .i64 1] rfl (by (try simp only [List.map_toArray, List.map_cons, List.map_nil]); first | done | rfl | (simp only [List.length_drop, List.length_take]; rfl)) ?_; (with_reducible refine (laws_markIntS.calls kj24 (fun k_ => some k_ = (.slice Ao46 t143.length co46 : Value).ownBlock) (.slice Ao46 t143.length co46) t143 1 t155 t156 w _ ?side1 ?side2 A37.out).mono ?_); (case side1 => repeat (first | (with_reducible first | exact HB.out | apply below_alloc | apply pw_below_drewN | apply below_drew1) | exact HB.out)); (case side2 => exact Kd.R_tight rfl HO_6.out); rintro e w47 ⟨rfl, hy0, hb, hkp⟩; refine ⟨_, rfl, ?_⟩; have n0_ := Aside0.mk (Kd.R_mono (ok' := fun k_ => some k_ ≠ (.slice Ao46 t143.length co46 : Value).ownBlock) (Kd.R_keptB (HO_3.out) hkp (fun k_ hk_ hs_ => (hk_) hs_)) (fun k_ hk_ => hk_.1)); have n1_ := Aside0.mk (Kd.R_reok rfl hy0 (fun k_ e_ => HO_6.out.1 k_ e_)); have n2_ := Aside0.mk (hb); clear HO_3; clear HO_6; clear HB; have HO_3 := n0_; have HO_6 := n1_; have HB := n2_; clear n0_ n1_ n2_; (try clear hb); (try clear hkp); (try clear hy0)) | ((with_reducible refine gate_callee (f := 11) rfl ?_); refine goesL_ (some 64) rfl rfl Try.func11 (by kernel_rfl) rfl #[.slice Ao46 t156.length co46, .int .i64 1] rfl (by (try simp only [List.map_toArray, List.map_cons, List.map_nil]); first | done | (rw [show t156.length = t143.length from (Kd.R_reads' HO_6.out).1.symm] <;> rfl) | rfl | (simp only [List.length_drop, List.length_take]; rfl)) ?_; (with_reducible refine (laws_heldIntS.calls kj24 _ _ t156 1 t157 _ ?side1 ?side2 A38.out).mono ?_); (case side1 => repeat (first | exact (Kd.R_reads' HO_6.out).2.2 | (with_reducible refine Kd.C_alloc ?_ _) | (with_reducible refine Kd.C_drewN ?_ _) | (with_reducible refine Kd.C_drew ?_))); (case side2 => rw [show t156.length = t143.length from (Kd.R_reads' HO_6.out).1.symm]; exact (Kd.R_reads' HO_6.out).2.1); rintro e w' ⟨rfl, ⟨nd, rfl⟩⟩; refine ⟨_, rfl, ?_⟩) | ((with_reducible refine gate_callee (f := 7) rfl ?_); refine goesL_ (some 72) rfl rfl Try.func7 (by kernel_rfl) rfl #[.slice A0 l0.length c0] rfl (by (try simp only [List.map_toArray, List.map_cons, List.map_nil]); first | done | rfl | (simp only [List.length_drop, List.length_take]; rfl)) ?_; (with_reducible refine (laws_toIntS.calls kj24 _ _ l0 t158 _ ?side1 ?side2 A43.out).mono ?_); (case side1 => repeat (first | exact (Kd.C_below HR0.out (by repeat (first | (with_reducible first | exact HB.out | apply below_alloc | apply pw_below_drewN | apply below_drew1) | exact HB.out))) | (with_reducible refine Kd.C_alloc ?_ _) | (with_reducible refine Kd.C_drewN ?_ _) | (with_reducible refine Kd.C_drew ?_))); (case side2 => exact HC0.out); rintro e w48 ⟨v159, rfl, ho0, hb⟩; refine ⟨_, rfl, ?_⟩; have n0_ := Aside0.mk (Kd.R_elder' (by (with_reducible repeat (first | apply Kd.R_alloc | apply Kd.R_drewN | apply Kd.R_drew)); exact HO_3.out) (Kd.R_base ho0) hb); have n1_ := Aside0.mk (Kd.R_elder' (by (with_reducible repeat (first | apply Kd.R_alloc | apply Kd.R_drewN | apply Kd.R_drew)); exact HO_6.out) (Kd.R_base ho0) hb); have n2_ := Aside0.mk (Kd.R_lower (Kd.R_new' (Kd.R_new' ho0 (Kd.R_lt (by (with_reducible repeat (first | apply Kd.R_alloc | apply Kd.R_drewN | apply Kd.R_drew)); exact HO_3.out))) (Kd.R_lt (by (with_reducible repeat (first | apply Kd.R_alloc | apply Kd.R_drewN | apply Kd.R_drew)); exact HO_6.out))) (below_size (by repeat (first | (with_reducible first | exact HB.out | apply below_alloc | apply pw_below_drewN | apply below_drew1) | exact HB.out)))); have n3_ := Aside0.mk (below_step (by repeat (first | (with_reducible first | exact HB.out | apply below_alloc | apply pw_below_drewN | apply below_drew1) | exact HB.out)) hb); clear HO_3; clear HO_6; clear HB; have HO_3 := n0_; have HO_6 := n1_; have HO160 := n2_; have HB := n3_; clear n0_ n1_ n2_ n3_; (try clear hb); (try clear hb2); (try clear hk); (try clear hi); (try clear ho0); obtain ⟨Ao49, co49, eo49⟩ := Kd.R_slice HO160.out; subst eo49) | ((with_reducible refine gate_callee (f := 8) rfl ?_); refine goesL_ (some 73) rfl rfl Try.func8 (by kernel_rfl) rfl #[.slice Ao49 t158.length co49] rfl (by (try simp only [List.map_toArray, List.map_cons, List.map_nil]); first | done | rfl | (simp only [List.length_drop, List.length_take]; rfl)) ?_; (with_reducible refine (impl_OrbitsByRests.calls kj24 _ _ t158 t161 t162 _ ?side1 ?side2 A44.out).mono ?_); (case side1 => repeat (first | exact (Kd.R_reads' HO160.out).2.2 | (with_reducible refine Kd.C_alloc ?_ _) | (with_reducible refine Kd.C_drewN ?_ _) | (with_reducible refine Kd.C_drew ?_))); (case side2 => exact (Kd.R_reads' HO160.out).2.1); rintro e w50 ⟨v163, rfl, ho0, hb⟩; refine ⟨_, rfl, ?_⟩; have n0_ := Aside0.mk (Kd.R_elder' (by (with_reducible repeat (first | apply Kd.R_alloc | apply Kd.R_drewN | apply Kd.R_drew)); exact HO_3.out) (Kd.R_base ho0) hb); have n1_ := Aside0.mk (Kd.R_elder' (by (with_reducible repeat (first | apply Kd.R_alloc | apply Kd.R_drewN | apply Kd.R_drew)); exact HO_6.out) (Kd.R_base ho0) hb); have n2_ := Aside0.mk (Kd.R_elder' (by (with_reducible repeat (first | apply Kd.R_alloc | apply Kd.R_drewN | apply Kd.R_drew)); exact HO160.out) (Kd.R_base ho0) hb); have n3_ := Aside0.mk (Kd.R_lower (Kd.R_new' (Kd.R_new' (Kd.R_new' ho0 (Kd.R_lt (by (with_reducible repeat (first | apply Kd.R_alloc | apply Kd.R_drewN | apply Kd.R_drew)); exact HO_3.out))) (Kd.R_lt (by (with_reducible repeat (first | apply Kd.R_alloc | apply Kd.R_drewN | apply Kd.R_drew)); exact HO_6.out))) (Kd.R_lt (by (with_reducible repeat (first | apply Kd.R_alloc | apply Kd.R_drewN | apply Kd.R_drew)); exact HO160.out))) (below_size (by repeat (first | (with_reducible first | exact HB.out | apply below_alloc | apply pw_below_drewN | apply below_drew1) | exact HB.out)))); have n4_ := Aside0.mk (below_step (by repeat (first | (with_reducible first | exact HB.out | apply below_alloc | apply pw_below_drewN | apply below_drew1) | exact HB.out)) hb); clear HO_3; clear HO_6; clear HO160; clear HB; have HO_3 := n0_; have HO_6 := n1_; have HO160 := n2_; have HO164 := n3_; have HB := n4_; clear n0_ n1_ n2_ n3_ n4_; (try clear hb); (try clear hb2); (try clear hk); (try clear hi); (try clear ho0)))
                      (try simp only [Act.put, List.setIfInBounds_toArray, List.set_cons_zero, List.set_cons_succ])
                      go_cut [84] (fun v84 wc => ∃ (kq : Nat) (x84_44 : Bool), v84 = .bool x84_44 ∧ Aside0 (laws_FnExactOrbitsByRests.j2 kq t156 t155 x84_44 = some r) ∧ Aside0 (kq ≤ kj24) ∧ Aside0 (Kd.R (Kd.int .i64) 3 wc w.heap.size (fun _ => True) (.slice Ao46 t143.length co46) t156) ∧ Aside0 (Below w.heap.size w wc))
                      case first =>
                        have H := HC45.out
                        clear HC45
                        replace H := Option.bind_eq_some_iff.mp H
                        obtain ⟨t165, A510, H⟩ := H
                        replace H : (if t165 = true then (laws_FnExactOrbitsByRests.j2 kj24 t156 t155 (t162 != t137)) else (laws_FnExactOrbitsByRests.j2 kj24 t156 t155 true)) = some r := H
                        have A51 := Aside0.mk A510
                        clear A510
                        by_cases c52 : t165 = true
                        · subst c52
                          have H1 : (laws_FnExactOrbitsByRests.j2 kj24 t156 t155 (t162 != t137)) = some r := by rw [if_pos rfl] at H; exact H
                          clear H
                          have H := H1
                          clear H1
                          have H' := Aside0.mk H
                          clear H
                          obtain ⟨Ao53, co53, eo53⟩ := Kd.R_slice HO164.out
                          subst eo53
                          obtain ⟨Ao54, co54, eo54⟩ := Kd.R_slice HO_3.out
                          subst eo54
                          go_wp2_with (first | ((with_reducible refine gate_callee (f := 9) rfl ?_); refine goesL_ (some 78) rfl rfl Try.func9 (by kernel_rfl) rfl #[.slice Ao53 t161.length co53, .slice Ao54 t136.length co54] rfl (by (try simp only [List.map_toArray, List.map_cons, List.map_nil]); first | done | rfl | (simp only [List.length_drop, List.length_take]; rfl)) ?_; (with_reducible refine (laws_eqIntS.calls kj24 _ _ t161 _ _ t136 true _ ?side1 ?side2 ?side3 ?side4 A51.out).mono ?_); (case side1 => repeat (first | exact (Kd.R_reads' HO164.out).2.2 | (with_reducible refine Kd.C_alloc ?_ _) | (with_reducible refine Kd.C_drewN ?_ _) | (with_reducible refine Kd.C_drew ?_))); (case side2 => exact (Kd.R_reads' HO164.out).2.1); (case side3 => repeat (first | exact (Kd.R_reads' HO_3.out).2.2 | (with_reducible refine Kd.C_alloc ?_ _) | (with_reducible refine Kd.C_drewN ?_ _) | (with_reducible refine Kd.C_drew ?_))); (case side4 => exact (Kd.R_reads' HO_3.out).2.1); rintro e w' ⟨rfl, ⟨nd, rfl⟩⟩; refine ⟨_, rfl, ?_⟩))
                          go_meet
                          case rel => exact ⟨_, ((t162 != t137)), (by first | rfl | (simp; done) | (simp [*]; done)), H', ⟨by have := HJ6.out; have := HJ24.out; first | omega | exact Nat.le_refl _⟩, ⟨by (with_reducible repeat (first | apply Kd.R_alloc | apply Kd.R_drewN | apply Kd.R_drew)); exact Kd.R_mono HO_6.out (fun _ hk => trivial)⟩, ⟨by repeat (first | (with_reducible first | exact HB.out | apply below_alloc | apply pw_below_drewN | apply below_drew1) | exact HB.out)⟩⟩
                        · replace c52 := Bool.eq_false_iff.mpr c52
                          subst c52
                          have H1 : (laws_FnExactOrbitsByRests.j2 kj24 t156 t155 true) = some r := by rw [if_neg (show ¬ (false = true) by decide)] at H; exact H
                          clear H
                          have H := H1
                          clear H1
                          have H' := Aside0.mk H
                          clear H
                          obtain ⟨Ao55, co55, eo55⟩ := Kd.R_slice HO164.out
                          subst eo55
                          obtain ⟨Ao56, co56, eo56⟩ := Kd.R_slice HO_3.out
                          subst eo56
                          go_wp2_with (first | ((with_reducible refine gate_callee (f := 9) rfl ?_); refine goesL_ (some 78) rfl rfl Try.func9 (by kernel_rfl) rfl #[.slice Ao55 t161.length co55, .slice Ao56 t136.length co56] rfl (by (try simp only [List.map_toArray, List.map_cons, List.map_nil]); first | done | rfl | (simp only [List.length_drop, List.length_take]; rfl)) ?_; (with_reducible refine (laws_eqIntS.calls kj24 _ _ t161 _ _ t136 false _ ?side1 ?side2 ?side3 ?side4 A51.out).mono ?_); (case side1 => repeat (first | exact (Kd.R_reads' HO164.out).2.2 | (with_reducible refine Kd.C_alloc ?_ _) | (with_reducible refine Kd.C_drewN ?_ _) | (with_reducible refine Kd.C_drew ?_))); (case side2 => exact (Kd.R_reads' HO164.out).2.1); (case side3 => repeat (first | exact (Kd.R_reads' HO_3.out).2.2 | (with_reducible refine Kd.C_alloc ?_ _) | (with_reducible refine Kd.C_drewN ?_ _) | (with_reducible refine Kd.C_drew ?_))); (case side4 => exact (Kd.R_reads' HO_3.out).2.1); rintro e w' ⟨rfl, ⟨nd, rfl⟩⟩; refine ⟨_, rfl, ?_⟩))
                          go_meet
                          case rel => exact ⟨_, (true), (by first | rfl | (simp; done) | (simp [*]; done)), H', ⟨by have := HJ6.out; have := HJ24.out; first | omega | exact Nat.le_refl _⟩, ⟨by (with_reducible repeat (first | apply Kd.R_alloc | apply Kd.R_drewN | apply Kd.R_drew)); exact Kd.R_mono HO_6.out (fun _ hk => trivial)⟩, ⟨by repeat (first | (with_reducible first | exact HB.out | apply below_alloc | apply pw_below_drewN | apply below_drew1) | exact HB.out)⟩⟩
                      case rest =>
                        clear HC45
                        try clear c1
                        try clear c2
                        try clear c2b0
                        try clear c2b1
                        try clear p2
                        try clear c3
                        try clear c4
                        try clear c5
                        try clear c6
                        try clear c7
                        try clear c8
                        try clear c9
                        try clear c10
                        try clear c11
                        try clear c15
                        try clear c20
                        try clear c23
                        try clear c29
                        try clear c29b0
                        try clear c31
                        try clear c36
                        try clear c39
                        try clear c39b0
                        try clear c42
                        try clear c42b0
                        try clear c42b1
                        try clear c52
                        try clear p2
                        obtain ⟨kq, x84_44, rfl, HA, HJ44, HO_6, HB⟩ := hcut
                        have hl6_44 := (Kd.R_reads' HO_6.out).1
                        rw [hl6_44] at HO_6
                        (try simp only [hl6_44])
                        cases kq with
                        | zero => exact absurd HA.out (by simp [laws_FnExactOrbitsByRests.j2])
                        | succ kj44 =>
                          have H := HA.out
                          clear HA
                          simp only [laws_FnExactOrbitsByRests.j2] at H
                          by_cases c57 : x84_44 = true
                          · subst c57
                            have H1 : (some false) = some r := by rw [if_pos rfl] at H; exact H
                            clear H
                            have H := H1
                            clear H1
                            obtain rfl := Option.some.inj H
                            go_wp2
                            go_ret
                            exact ⟨by first | rfl | (simp [errW_none, errW_some] <;> rfl) | (simp [*, errW_none, errW_some] <;> rfl), by repeat (first | (with_reducible first | exact HB.out | apply below_alloc | apply pw_below_drewN | apply below_drew1) | exact HB.out)⟩
                          · replace c57 := Bool.eq_false_iff.mpr c57
                            subst c57
                            have H1 : ((laws_heldIntS.f kj44 t156 1).bind fun t166 => (if t166 < 0 then (some false) else (if t166 = t155 then (some true) else (some false)))) = some r := by rw [if_neg (show ¬ (false = true) by decide)] at H; exact H
                            clear H
                            have H := H1
                            clear H1
                            replace H := Option.bind_eq_some_iff.mp H
                            obtain ⟨t166, A580, H⟩ := H
                            replace H : (if t166 < 0 then (some false) else (if t166 = t155 then (some true) else (some false))) = some r := H
                            have A58 := Aside0.mk A580
                            clear A580
                            by_cases c59 : t166 < 0
                            · rw [if_pos c59] at H
                              have c59b0 : decide (t166 < 0) = true := decide_eq_true c59
                              clear c59
                              obtain rfl := Option.some.inj H
                              go_wp2_with (first | ((with_reducible refine gate_callee (f := 11) rfl ?_); refine goesL_ (some 87) rfl rfl Try.func11 (by kernel_rfl) rfl #[.slice Ao46 t156.length co46, .int .i64 1] rfl (by (try simp only [List.map_toArray, List.map_cons, List.map_nil]); first | done | rfl | (simp only [List.length_drop, List.length_take]; rfl)) ?_; (with_reducible refine (laws_heldIntS.calls kj44 _ _ t156 1 t166 _ ?side1 ?side2 A58.out).mono ?_); (case side1 => repeat (first | exact (Kd.R_reads' HO_6.out).2.2 | (with_reducible refine Kd.C_alloc ?_ _) | (with_reducible refine Kd.C_drewN ?_ _) | (with_reducible refine Kd.C_drew ?_))); (case side2 => exact (Kd.R_reads' HO_6.out).2.1); rintro e w' ⟨rfl, ⟨nd, rfl⟩⟩; refine ⟨_, rfl, ?_⟩))
                              go_ret
                              exact ⟨by first | rfl | (simp [errW_none, errW_some] <;> rfl) | (simp [*, errW_none, errW_some] <;> rfl), by repeat (first | (with_reducible first | exact HB.out | apply below_alloc | apply pw_below_drewN | apply below_drew1) | exact HB.out)⟩
                            · rw [if_neg c59] at H
                              have c59b0 : decide (t166 < 0) = false := decide_eq_false c59
                              clear c59
                              by_cases c60 : t166 = t155
                              · rw [if_pos c60] at H
                                have c60b0 : (t166 == t155) = true := beq_iff_eq.mpr c60
                                have c60b1 : (t166 != t155) = false := bne_eq_false_iff_eq.mpr c60
                                clear c60
                                obtain rfl := Option.some.inj H
                                go_wp2_with (first | ((with_reducible refine gate_callee (f := 11) rfl ?_); refine goesL_ (some 87) rfl rfl Try.func11 (by kernel_rfl) rfl #[.slice Ao46 t156.length co46, .int .i64 1] rfl (by (try simp only [List.map_toArray, List.map_cons, List.map_nil]); first | done | rfl | (simp only [List.length_drop, List.length_take]; rfl)) ?_; (with_reducible refine (laws_heldIntS.calls kj44 _ _ t156 1 t166 _ ?side1 ?side2 A58.out).mono ?_); (case side1 => repeat (first | exact (Kd.R_reads' HO_6.out).2.2 | (with_reducible refine Kd.C_alloc ?_ _) | (with_reducible refine Kd.C_drewN ?_ _) | (with_reducible refine Kd.C_drew ?_))); (case side2 => exact (Kd.R_reads' HO_6.out).2.1); rintro e w' ⟨rfl, ⟨nd, rfl⟩⟩; refine ⟨_, rfl, ?_⟩))
                                go_ret
                                exact ⟨by first | rfl | (simp [errW_none, errW_some] <;> rfl) | (simp [*, errW_none, errW_some] <;> rfl), by repeat (first | (with_reducible first | exact HB.out | apply below_alloc | apply pw_below_drewN | apply below_drew1) | exact HB.out)⟩
                              · rw [if_neg c60] at H
                                have c60b0 : (t166 == t155) = false := beq_eq_false_iff_ne.mpr c60
                                have c60b1 : (t166 != t155) = true := bne_iff_ne.mpr c60
                                obtain rfl := Option.some.inj H
                                go_wp2_with (first | ((with_reducible refine gate_callee (f := 11) rfl ?_); refine goesL_ (some 87) rfl rfl Try.func11 (by kernel_rfl) rfl #[.slice Ao46 t156.length co46, .int .i64 1] rfl (by (try simp only [List.map_toArray, List.map_cons, List.map_nil]); first | done | rfl | (simp only [List.length_drop, List.length_take]; rfl)) ?_; (with_reducible refine (laws_heldIntS.calls kj44 _ _ t156 1 t166 _ ?side1 ?side2 A58.out).mono ?_); (case side1 => repeat (first | exact (Kd.R_reads' HO_6.out).2.2 | (with_reducible refine Kd.C_alloc ?_ _) | (with_reducible refine Kd.C_drewN ?_ _) | (with_reducible refine Kd.C_drew ?_))); (case side2 => exact (Kd.R_reads' HO_6.out).2.1); rintro e w' ⟨rfl, ⟨nd, rfl⟩⟩; refine ⟨_, rfl, ?_⟩))
                                go_ret
                                exact ⟨by first | rfl | (simp [errW_none, errW_some] <;> rfl) | (simp [*, errW_none, errW_some] <;> rfl), by repeat (first | (with_reducible first | exact HB.out | apply below_alloc | apply pw_below_drewN | apply below_drew1) | exact HB.out)⟩
                    · rw [if_neg c42] at H
                      have c42b0 : (t157 == t155) = false := beq_eq_false_iff_ne.mpr c42
                      have c42b1 : (t157 != t155) = true := bne_iff_ne.mpr c42
                      obtain rfl := Option.some.inj H
                      obtain ⟨Ao61, co61, eo61⟩ := Kd.R_slice HO_6.out
                      subst eo61
                      go_wp2_with (first | ((with_reducible refine gate_callee (f := 10) rfl ?_); refine goesL_ (some 61) rfl rfl Try.func10 (by kernel_rfl) rfl #[.slice Ao61 t143.length co61, .int .i64 1] rfl (by (try simp only [List.map_toArray, List.map_cons, List.map_nil]); first | done | rfl | (simp only [List.length_drop, List.length_take]; rfl)) ?_; (with_reducible refine (laws_markIntS.calls kj24 (fun k_ => some k_ = (.slice Ao61 t143.length co61 : Value).ownBlock) (.slice Ao61 t143.length co61) t143 1 t155 t156 w _ ?side1 ?side2 A37.out).mono ?_); (case side1 => repeat (first | (with_reducible first | exact HB.out | apply below_alloc | apply pw_below_drewN | apply below_drew1) | exact HB.out)); (case side2 => exact Kd.R_tight rfl HO_6.out); rintro e w62 ⟨rfl, hy0, hb, hkp⟩; refine ⟨_, rfl, ?_⟩; have n0_ := Aside0.mk (Kd.R_mono (ok' := fun k_ => some k_ ≠ (.slice Ao61 t143.length co61 : Value).ownBlock) (Kd.R_keptB (HO_3.out) hkp (fun k_ hk_ hs_ => (hk_) hs_)) (fun k_ hk_ => hk_.1)); have n1_ := Aside0.mk (Kd.R_reok rfl hy0 (fun k_ e_ => HO_6.out.1 k_ e_)); have n2_ := Aside0.mk (hb); clear HO_3; clear HO_6; clear HB; have HO_3 := n0_; have HO_6 := n1_; have HB := n2_; clear n0_ n1_ n2_; (try clear hb); (try clear hkp); (try clear hy0)) | ((with_reducible refine gate_callee (f := 11) rfl ?_); refine goesL_ (some 64) rfl rfl Try.func11 (by kernel_rfl) rfl #[.slice Ao61 t156.length co61, .int .i64 1] rfl (by (try simp only [List.map_toArray, List.map_cons, List.map_nil]); first | done | (rw [show t156.length = t143.length from (Kd.R_reads' HO_6.out).1.symm] <;> rfl) | rfl | (simp only [List.length_drop, List.length_take]; rfl)) ?_; (with_reducible refine (laws_heldIntS.calls kj24 _ _ t156 1 t157 _ ?side1 ?side2 A38.out).mono ?_); (case side1 => repeat (first | exact (Kd.R_reads' HO_6.out).2.2 | (with_reducible refine Kd.C_alloc ?_ _) | (with_reducible refine Kd.C_drewN ?_ _) | (with_reducible refine Kd.C_drew ?_))); (case side2 => rw [show t156.length = t143.length from (Kd.R_reads' HO_6.out).1.symm]; exact (Kd.R_reads' HO_6.out).2.1); rintro e w' ⟨rfl, ⟨nd, rfl⟩⟩; refine ⟨_, rfl, ?_⟩))
                      go_ret
                      exact ⟨by first | rfl | (simp [errW_none, errW_some] <;> rfl) | (simp [*, errW_none, errW_some] <;> rfl), by repeat (first | (with_reducible first | exact HB.out | apply below_alloc | apply pw_below_drewN | apply below_drew1) | exact HB.out)⟩
          · replace c23 := Bool.eq_false_iff.mpr c23
            subst c23
            have H1 : (some false) = some r := by rw [if_neg (show ¬ (false = true) by decide)] at H; exact H
            clear H
            have H := H1
            clear H1
            obtain rfl := Option.some.inj H
            go_wp2_with (first | ((with_reducible refine gate_callee (f := 7) rfl ?_); refine goesL_ (some 40) rfl rfl Try.func7 (by kernel_rfl) rfl #[.slice A0 l0.length c0] rfl (by (try simp only [List.map_toArray, List.map_cons, List.map_nil]); first | done | rfl | (simp only [List.length_drop, List.length_take]; rfl)) ?_; (with_reducible refine (laws_toIntS.calls kj6 _ _ l0 t148 _ ?side1 ?side2 A21.out).mono ?_); (case side1 => repeat (first | exact (Kd.C_below HR0.out HB.out) | (with_reducible refine Kd.C_alloc ?_ _) | (with_reducible refine Kd.C_drewN ?_ _) | (with_reducible refine Kd.C_drew ?_))); (case side2 => exact HC0.out); rintro e w63 ⟨v149, rfl, ho0, hb⟩; refine ⟨_, rfl, ?_⟩; have n0_ := Aside0.mk (Kd.R_elder' (by (with_reducible repeat (first | apply Kd.R_alloc | apply Kd.R_drewN | apply Kd.R_drew)); exact HO_3.out) (Kd.R_base ho0) hb); have n1_ := Aside0.mk (Kd.R_elder' (by (with_reducible repeat (first | apply Kd.R_alloc | apply Kd.R_drewN | apply Kd.R_drew)); exact HO_5.out) (Kd.R_base ho0) hb); have n2_ := Aside0.mk (Kd.R_elder' (by (with_reducible repeat (first | apply Kd.R_alloc | apply Kd.R_drewN | apply Kd.R_drew)); exact HO_6.out) (Kd.R_base ho0) hb); have n3_ := Aside0.mk (Kd.R_lower (Kd.R_new' (Kd.R_new' (Kd.R_new' ho0 (Kd.R_lt (by (with_reducible repeat (first | apply Kd.R_alloc | apply Kd.R_drewN | apply Kd.R_drew)); exact HO_3.out))) (Kd.R_lt (by (with_reducible repeat (first | apply Kd.R_alloc | apply Kd.R_drewN | apply Kd.R_drew)); exact HO_5.out))) (Kd.R_lt (by (with_reducible repeat (first | apply Kd.R_alloc | apply Kd.R_drewN | apply Kd.R_drew)); exact HO_6.out))) (below_size (by repeat (first | (with_reducible first | exact HB.out | apply below_alloc | apply pw_below_drewN | apply below_drew1) | exact HB.out)))); have n4_ := Aside0.mk (below_step (by repeat (first | (with_reducible first | exact HB.out | apply below_alloc | apply pw_below_drewN | apply below_drew1) | exact HB.out)) hb); clear HO_3; clear HO_5; clear HO_6; clear HB; have HO_3 := n0_; have HO_5 := n1_; have HO_6 := n2_; have HO150 := n3_; have HB := n4_; clear n0_ n1_ n2_ n3_ n4_; (try clear hb); (try clear hb2); (try clear hk); (try clear hi); (try clear ho0); obtain ⟨Ao64, co64, eo64⟩ := Kd.R_slice HO150.out; subst eo64) | ((with_reducible refine gate_callee (f := 9) rfl ?_); refine goesL_ (some 41) rfl rfl Try.func9 (by kernel_rfl) rfl #[.slice Ao12 t140.length co12, .slice Ao64 t148.length co64] rfl (by (try simp only [List.map_toArray, List.map_cons, List.map_nil]); first | done | rfl | (simp only [List.length_drop, List.length_take]; rfl)) ?_; (with_reducible refine (laws_eqIntS.calls kj6 _ _ t140 _ _ t148 false _ ?side1 ?side2 ?side3 ?side4 A22.out).mono ?_); (case side1 => repeat (first | exact (Kd.R_reads' HO_5.out).2.2 | (with_reducible refine Kd.C_alloc ?_ _) | (with_reducible refine Kd.C_drewN ?_ _) | (with_reducible refine Kd.C_drew ?_))); (case side2 => exact (Kd.R_reads' HO_5.out).2.1); (case side3 => repeat (first | exact (Kd.R_reads' HO150.out).2.2 | (with_reducible refine Kd.C_alloc ?_ _) | (with_reducible refine Kd.C_drewN ?_ _) | (with_reducible refine Kd.C_drew ?_))); (case side4 => exact (Kd.R_reads' HO150.out).2.1); rintro e w' ⟨rfl, ⟨nd, rfl⟩⟩; refine ⟨_, rfl, ?_⟩))
            go_ret
            exact ⟨by first | rfl | (simp [errW_none, errW_some] <;> rfl) | (simp [*, errW_none, errW_some] <;> rfl), by repeat (first | (with_reducible first | exact HB.out | apply below_alloc | apply pw_below_drewN | apply below_drew1) | exact HB.out)⟩
def laws_FnExactOrbitsByRests.Pure : Prop := ∀ (l0 : List Int), l0.length ≤ maxLen → l0.length * 8 ≤ 140737488351232 → (∀ x ∈ l0, (Lit.int .i64 x).wf = true) → ∃ k, laws_FnExactOrbitsByRests.f k l0 = some true
theorem laws_FnExactOrbitsByRests.walk (P : laws_FnExactOrbitsByRests.Pure) (a0 : Option Addr) (len0 cap0 : Nat) (z0 : List Int) (w : World) (w0 : (a0 = none ∧ len0 = 0 ∧ cap0 = 0 ∧ z0 = []) ∨ ∃ x, a0 = some x ∧ len0 ≤ cap0 ∧ cap0 ≤ maxLen ∧ z0.length = cap0 ∧ (∀ i, i < z0.length → w.cell? (x.add i) = some (.int .i64 (z0.getD i 0))) ∧ ∀ n ∈ z0, (Lit.int .i64 n).wf = true) (y0 : len0 * 8 ≤ 140737488351232) :
    Calls Try.prog 3 #[.slice a0 len0 cap0] w fun e w' => e = .returned (.bool true) ∧ Below w.heap.size w w' := by
  obtain ⟨l0, rfl, hr0, hm0, hw0, hc0⟩ := ReadsInt.ofRowC w0
  obtain ⟨k, h⟩ := P l0 hm0 y0 hw0
  refine (laws_FnExactOrbitsByRests.calls k _ _ l0 true w (Kd.C_of_reads (d := (0 : Int)) (h1 := fun _ => rfl) hr0) hc0 h).mono ?_
  rintro e w' ⟨rfl, hd⟩
  exact ⟨rfl, hd⟩
end Go.Proofs.Ytnhhkjodmcepmaa.L
end
section
namespace Go.Proofs.Ytnhhkjodmcepmaa.L
open Go.RowKit Go.Proofs.YtnhhkjodmcepmaaW.PrintWords Go.Proofs.YtnhhkjodmcepmaaW.PrintLast
def laws_FnExactOrbitsByRests.Pure2 : Prop := ∀ (l0 : List Int), l0.length ≤ maxLen → (∀ x ∈ l0, (Lit.int .i64 x).wf = true) → ∃ k, laws_FnExactOrbitsByRests.f k l0 = some true
end Go.Proofs.Ytnhhkjodmcepmaa.L
end
section
namespace Go.Proofs.Ytnhhkjodmcepmaa.M
open Go.RowKit Go.Proofs.YtnhhkjodmcepmaaW.PrintWords Go.Proofs.YtnhhkjodmcepmaaW.PrintLast Go.Proofs.YtnhhkjodmcepmaaW.PrintMore
theorem wrap_id {x : Int} (h0 : -9223372036854775808 ≤ x) (h1 : x ≤ 9223372036854775807) : wrap64 x = x := by unfold wrap64; omega
theorem wrap_succ {i : Nat} (h : i < 9223372036854775807) : wrap64 ((i : Int) + 1) = ((i + 1 : Nat) : Int) := by unfold wrap64; omega
theorem rd_get {l : List Int} {i : Nat} (h : i < l.length) : rd l (i : Int) = l[i] := by simp [rd, List.getD_eq_getElem?_getD, h]
theorem ev_det {α : Type} {g : Nat → Option α} {r r' : α} (h : Ev g r) (h' : Ev g r') : r = r' := by
  obtain ⟨K, h⟩ := h; obtain ⟨K', h'⟩ := h'
  have a := h (max K K') (by omega); have b := h' (max K K') (by omega)
  exact Option.some.inj (a.symm.trans b)
theorem ev_ite {α : Type} {c : Prop} [Decidable c] {f g : Nat → Option α} {r : α} (h1 : c → Ev f r) (h2 : ¬ c → Ev g r) : Ev (fun k => if c then f k else g k) r := by
  by_cases h : c
  · obtain ⟨K, hK⟩ := h1 h; exact ⟨K, fun k hk => by simp only [if_pos h]; exact hK k hk⟩
  · obtain ⟨K, hK⟩ := h2 h; exact ⟨K, fun k hk => by simp only [if_neg h]; exact hK k hk⟩
theorem ev_pos {α : Type} {c : Prop} [Decidable c] {f g : Nat → Option α} {r : α} (h : c) (h1 : Ev f r) : Ev (fun k => if c then f k else g k) r := ev_ite (fun _ => h1) (fun h2 => absurd h h2)
theorem ev_neg {α : Type} {c : Prop} [Decidable c] {f g : Nat → Option α} {r : α} (h : ¬ c) (h1 : Ev g r) : Ev (fun k => if c then f k else g k) r := ev_ite (fun h2 => absurd h2 h) (fun _ => h1)
theorem ev_call {α β : Type} {x : Option α} {a : α} {f : Nat → α → Option β} {r : β} (h : x = some a) (k : Ev (fun n => f n a) r) : Ev (fun n => x.bind (f n)) r := by subst h; simpa using k
def inB (x lo hi : Int) : Bool := decide (lo ≤ x) && decide (x ≤ hi)
theorem inB_iff {x lo hi : Int} : inB x lo hi = true ↔ lo ≤ x ∧ x ≤ hi := by simp [inB]
end Go.Proofs.Ytnhhkjodmcepmaa.M
end
section
namespace Go.Proofs.Ytnhhkjodmcepmaa.M
open Go.RowKit Go.Proofs.YtnhhkjodmcepmaaW.PrintWords Go.Proofs.YtnhhkjodmcepmaaW.PrintLast Go.Proofs.YtnhhkjodmcepmaaW.PrintMore Go.Proofs.Ytnhhkjodmcepmaa.L
theorem toIntS_l0 (l : List Int) (hl : l.length ≤ 35184372088832) : ∀ (d i : Nat) (acc : List Int), i + d = l.length → acc.length = l.length → Ev (fun k => laws_toIntS.l0 k l acc i) (acc.take i ++ l.drop i)
  | 0, i, acc, h, ha => by
    have h1 : ¬ ((i : Int) < (l.length : Int)) := by omega
    refine Ev.step (fun _ => rfl) (ev_neg h1 ?_)
    rw [List.take_of_length_le (by omega), List.drop_of_length_le (by omega), List.append_nil]
    exact Ev.now _
  | d + 1, i, acc, h, ha => by
    have h1 : (i : Int) < (l.length : Int) := by omega
    refine Ev.step (fun _ => rfl) (ev_pos h1 (ev_pos (by omega) (ev_pos (by omega) ?_)))
    rw [wrap_succ (by omega), rd_get (by omega : i < l.length), Int.toNat_natCast]
    have ih := toIntS_l0 l hl d (i + 1) (acc.set i l[i]) (by omega) (by simp [ha])
    have e : (acc.set i l[i]).take (i + 1) ++ l.drop (i + 1) = acc.take i ++ l.drop i := by
      rw [List.take_succ_eq_append_getElem (by simp; omega), List.getElem_set_self, List.drop_eq_getElem_cons (by omega : i < l.length)]
      simp [List.take_set_of_le]
    rw [← e]; exact ih
theorem toIntS_ev (l : List Int) (hl : l.length ≤ 35184372088832) : Ev (fun k => laws_toIntS.f k l) l := by
  have h := toIntS_l0 l hl l.length 0 (List.replicate l.length 0) (by omega) (by simp)
  exact ev_pos (by omega) (ev_pos (by simpa using hl) (by simpa using h))
theorem eqIntS_l0 (a b : List Int) (hl : a.length ≤ 9223372036854775806) (hab : a.length = b.length) : ∀ (d i : Nat), i + d = a.length → Ev (fun k => laws_eqIntS.l0 k a b i) (decide (a.drop i = b.drop i))
  | 0, i, h => by
    have h1 : ¬ ((i : Int) < (a.length : Int)) := by omega
    refine Ev.step (fun _ => rfl) (ev_neg h1 ?_)
    rw [List.drop_of_length_le (by omega), List.drop_of_length_le (by omega)]
    exact Ev.now _
  | d + 1, i, h => by
    have h1 : (i : Int) < (a.length : Int) := by omega
    refine Ev.step (fun _ => rfl) (ev_pos h1 (ev_pos (by omega) (ev_pos (by omega) ?_)))
    rw [wrap_succ (by omega), rd_get (by omega : i < a.length), rd_get (by omega : i < b.length)]
    rw [List.drop_eq_getElem_cons (by omega : i < a.length), List.drop_eq_getElem_cons (by omega : i < b.length)]
    refine ev_ite (fun e => ?_) (fun e => ?_)
    · rw [decide_eq_decide.mpr (show (a[i] :: a.drop (i + 1) = b[i] :: b.drop (i + 1)) ↔ a.drop (i + 1) = b.drop (i + 1) by rw [List.cons.injEq]; exact ⟨fun z => z.2, fun z => ⟨e, z⟩⟩)]
      exact eqIntS_l0 a b hl hab d (i + 1) (by omega)
    · rw [decide_eq_false (show ¬ (a[i] :: a.drop (i + 1) = b[i] :: b.drop (i + 1)) by rw [List.cons.injEq]; exact fun z => e z.1)]
      exact Ev.now false
theorem eqIntS_ev (a b : List Int) (hl : a.length ≤ 9223372036854775806) : Ev (fun k => laws_eqIntS.f k a b) (decide (a = b)) := by
  refine ev_ite (fun e => ?_) (fun e => ?_)
  · simpa using eqIntS_l0 a b hl (by omega) a.length 0 (by omega)
  · have : ¬ a = b := fun z => e (by rw [z])
    simpa [this] using Ev.now false
def marks (q : Nat) (n : Nat) : List Int := (List.range' q n).map Int.ofNat
theorem marks_len (q n : Nat) : (marks q n).length = n := by simp [marks]
theorem marks_get (q n i : Nat) (h : i < (marks q n).length) : (marks q n)[i] = ((q + i : Nat) : Int) := by simp [marks]
theorem markIntS_l0 (n : Nat) (hn : n ≤ 4611686018427387903) (q : Nat) (hq : q ≤ 4611686018427387903) : ∀ (d i : Nat) (acc : List Int), i + d = n → acc.length = n → (∀ j (hj : j < acc.length), j < i → acc[j] = ((q + j : Nat) : Int)) →
    Ev (fun k => laws_markIntS.l0 k acc ((q + i : Nat) : Int) i) (((q + n : Nat) : Int), marks q n)
  | 0, i, acc, h, ha, hm => by
    have h1 : ¬ ((i : Int) < (acc.length : Int)) := by omega
    refine Ev.step (fun _ => rfl) (ev_neg h1 ?_)
    have e : acc = marks q n := List.ext_getElem (by rw [ha, marks_len]) (fun j h1 h2 => by rw [hm j h1 (by omega), marks_get])
    have e2 : i = n := by omega
    rw [e, e2]; exact Ev.now _
  | d + 1, i, acc, h, ha, hm => by
    have h1 : (i : Int) < (acc.length : Int) := by omega
    refine Ev.step (fun _ => rfl) (ev_pos h1 (ev_pos (by omega) ?_))
    rw [wrap_succ (by omega), wrap_succ (by omega), Int.toNat_natCast]
    refine markIntS_l0 n hn q hq d (i + 1) (acc.set i ((q + i : Nat) : Int)) (by omega) (by simp [ha]) (fun j hj hji => ?_)
    by_cases e : j = i
    · subst e; simp
    · rw [List.getElem_set_ne (by omega)]; exact hm j _ (by omega)
theorem markIntS_ev (l : List Int) (q : Nat) (hl : l.length ≤ 4611686018427387903) (hq : q ≤ 4611686018427387903) : Ev (fun k => laws_markIntS.f k l (q : Int)) (((q + l.length : Nat) : Int), marks q l.length) :=
  markIntS_l0 l.length hl q hq l.length 0 l (by omega) rfl (fun j _ h => by omega)
theorem heldIntS_l0 (q n : Nat) (hn : n ≤ 4611686018427387903) (hq : q ≤ 4611686018427387903) : ∀ (d i : Nat), i + d = n → Ev (fun k => laws_heldIntS.l0 k (marks q n) ((q + i : Nat) : Int) i) ((q + n : Nat) : Int)
  | 0, i, h => by
    have hm := marks_len q n
    have h1 : ¬ ((i : Int) < ((marks q n).length : Int)) := by omega
    refine Ev.step (fun _ => rfl) (ev_neg h1 ?_)
    have e2 : i = n := by omega
    rw [e2]; exact Ev.now _
  | d + 1, i, h => by
    have hm := marks_len q n
    have h1 : (i : Int) < ((marks q n).length : Int) := by omega
    refine Ev.step (fun _ => rfl) (ev_pos h1 (ev_pos (by omega) (ev_pos ?_ ?_)))
    · rw [rd_get (by omega), marks_get]
    · rw [wrap_succ (by omega), wrap_succ (by omega)]
      exact heldIntS_l0 q n hn hq d (i + 1) (by omega)
theorem heldIntS_ev (q n : Nat) (hn : n ≤ 4611686018427387903) (hq : q ≤ 4611686018427387903) : Ev (fun k => laws_heldIntS.f k (marks q n) (q : Int)) ((q + n : Nat) : Int) :=
  heldIntS_l0 q n hn hq n 0 (by omega)
end Go.Proofs.Ytnhhkjodmcepmaa.M
end
section
namespace Go.Proofs.Ytnhhkjodmcepmaa.M
open Go.RowKit Go.Proofs.YtnhhkjodmcepmaaW.PrintWords Go.Proofs.YtnhhkjodmcepmaaW.PrintLast Go.Proofs.YtnhhkjodmcepmaaW.PrintMore Go.Proofs.Ytnhhkjodmcepmaa.L
theorem l1In_eq (x lo hi : Int) : spec_l1In.f x lo hi = some (inB x lo hi) := by
  unfold spec_l1In.f inB
  by_cases h : lo ≤ x <;> simp [h]
theorem within_eq (x lo hi : Int) : impl_within.f x lo hi = some (inB x lo hi) := by
  unfold impl_within.f inB
  by_cases h : lo ≤ x <;> simp [h]
theorem l1All_l0 (l : List Int) (lo hi : Int) (hl : l.length ≤ 9223372036854775806) : ∀ (d i : Nat), i + d = l.length → Ev (fun k => spec_l1All.l0 k lo hi l (l.length : Int) i) ((l.drop i).all (inB · lo hi))
  | 0, i, h => by
    refine Ev.step (fun _ => rfl) (ev_neg (by omega) ?_)
    rw [List.drop_of_length_le (by omega)]; exact Ev.now _
  | d + 1, i, h => by
    refine Ev.step (fun _ => rfl) (ev_pos (by omega) (ev_pos (by omega) (ev_pos (by omega) (ev_call (l1In_eq _ _ _) ?_))))
    rw [rd_get (by omega : i < l.length), wrap_succ (by omega), List.drop_eq_getElem_cons (by omega : i < l.length), List.all_cons]
    refine ev_ite (fun e => ?_) (fun e => ?_)
    · rw [e, Bool.true_and]; exact l1All_l0 l lo hi hl d (i + 1) (by omega)
    · rw [Bool.eq_false_iff.mpr e, Bool.false_and]; exact Ev.now _
theorem l1All_ev (l : List Int) (lo hi : Int) (hl : l.length ≤ 9223372036854775806) : Ev (fun k => spec_l1All.f k l lo hi) (l.all (inB · lo hi)) := l1All_l0 l lo hi hl l.length 0 (by omega)
end Go.Proofs.Ytnhhkjodmcepmaa.M
end
section
namespace Go.Proofs.Ytnhhkjodmcepmaa.M
open Go.RowKit Go.Proofs.YtnhhkjodmcepmaaW.PrintWords Go.Proofs.YtnhhkjodmcepmaaW.PrintLast Go.Proofs.YtnhhkjodmcepmaaW.PrintMore Go.Proofs.Ytnhhkjodmcepmaa.L
theorem areUpTo_eq (l : List Int) (m : Int) (hl : l.length ≤ 9223372036854775806) : impl_areUpTo.f l m = some (l.all (inB · 0 m)) := by
  unfold impl_areUpTo.f
  rw [if_pos hl]
  congr 1
  rw [Bool.eq_iff_iff]
  simp [impl_areUpTo.p, inB]
theorem isTurn_eq (n : Int) : impl_isTurn.f n = some (inB n 1 60) := by simp [impl_isTurn.f, within_eq]
end Go.Proofs.Ytnhhkjodmcepmaa.M
end
section
namespace Go.Proofs.Ytnhhkjodmcepmaa.M
open Go.RowKit Go.Proofs.YtnhhkjodmcepmaaW.PrintWords Go.Proofs.YtnhhkjodmcepmaaW.PrintLast Go.Proofs.YtnhhkjodmcepmaaW.PrintMore Go.Proofs.Ytnhhkjodmcepmaa.L Go.Proofs.Ytnhhkjodmcepmaa.X
set_option linter.unusedVariables false
theorem areRests_eq (l : List Int) (hl : l.length ≤ 9223372036854775806) : impl_areRests.f l = some (inB (l.length : Int) 1 60 && l.all (inB · 0 100000000)) := by
  unfold impl_areRests.f
  rw [isTurn_eq]
  cases h : inB (l.length : Int) 1 60
  · rfl
  · rw [Option.bind_some, if_pos rfl, areUpTo_eq l _ hl]; rfl
theorem svRests_ev (l : List Int) (hl : l.length ≤ 9223372036854775806) : Ev (fun k => spec_svRests.f k l) (inB (l.length : Int) 1 60 && l.all (inB · 0 100000000)) := by
  refine ev_call (l1In_eq _ _ _) (ev_ite (fun e => ?_) (fun e => ?_))
  · rw [e, Bool.true_and]; exact Ev.bind (l1All_ev l _ _ hl) (Ev.now _)
  · rw [Bool.eq_false_iff.mpr e, Bool.false_and]; exact Ev.now _
end Go.Proofs.Ytnhhkjodmcepmaa.M
end
section
namespace Go.Proofs.Ytnhhkjodmcepmaa.M
open Go.RowKit Go.Proofs.YtnhhkjodmcepmaaW.PrintWords Go.Proofs.YtnhhkjodmcepmaaW.PrintLast Go.Proofs.YtnhhkjodmcepmaaW.PrintMore Go.Proofs.Ytnhhkjodmcepmaa.L Go.Proofs.Ytnhhkjodmcepmaa.X
set_option linter.unusedVariables false
def divsI (j q n : Nat) : List Int := ((List.range' j q).map fun i : Nat => (i : Int)).filter fun i => Int.tmod (n : Int) i == 0
def divB (n : Nat) : Bool := impl_divisors.f 100 (n : Int) == some (divsI 1 n n)
theorem div_table : ((List.range' 1 60).all divB) = true := by decide +kernel
theorem div_at {n : Nat} (h1 : 1 ≤ n) (h2 : n ≤ 60) : impl_divisors.f 100 (n : Int) = some (divsI 1 n n) := by
  have h := div_table
  rw [List.all_eq_true] at h
  have h3 := h n (by rw [List.mem_range'_1]; omega)
  unfold divB at h3
  exact beq_iff_eq.mp h3
theorem rem_at {j n : Nat} (h1 : 1 ≤ n) : 0 ≤ Int.tmod (j : Int) (n : Int) ∧ Int.tmod (j : Int) (n : Int) < (n : Int) := by
  refine ⟨Int.tmod_nonneg _ (by omega), ?_⟩
  exact Int.tmod_lt_of_pos _ (by omega)
theorem mem_divsI {j q n : Nat} {i : Int} (h : i ∈ divsI j q n) : ∃ m : Nat, i = (m : Int) ∧ j ≤ m ∧ m < j + q := by
  unfold divsI at h
  rw [List.mem_filter, List.mem_map] at h
  obtain ⟨⟨m, hm, rfl⟩, _⟩ := h
  rw [List.mem_range'_1] at hm
  exact ⟨m, rfl, hm.1, hm.2⟩
end Go.Proofs.Ytnhhkjodmcepmaa.M
end
section
namespace Go.Proofs.Ytnhhkjodmcepmaa.M
open Go.RowKit Go.Proofs.YtnhhkjodmcepmaaW.PrintWords Go.Proofs.YtnhhkjodmcepmaaW.PrintLast Go.Proofs.YtnhhkjodmcepmaaW.PrintMore Go.Proofs.Ytnhhkjodmcepmaa.L Go.Proofs.Ytnhhkjodmcepmaa.X
set_option linter.unusedVariables false
def obAtB (n i : Nat) : Bool := divsI 1 ((divsI 1 n n).getD i 0).toNat ((divsI 1 n n).getD i 0).toNat == (((divsI 1 n n).take i).filter fun h => Int.tmod ((divsI 1 n n).getD i 0) h == 0) ++ [(divsI 1 n n).getD i 0] && !((divsI 1 n n).take i).contains ((divsI 1 n n).getD i 0)
def obB (n : Nat) : Bool := (List.range (divsI 1 n n).length).all fun i => obAtB n i
theorem ob_table : ((List.range' 1 60).all obB) = true := by decide +kernel
theorem ob_at {n : Nat} (h1 : 1 ≤ n) (h2 : n ≤ 60) {pre gs : List Int} {g : Int} (h : pre ++ g :: gs = divsI 1 n n) : divsI 1 g.toNat g.toNat = (pre.filter fun h => Int.tmod g h == 0) ++ [g] ∧ g ∉ pre := by
  have ht := ob_table
  rw [List.all_eq_true] at ht
  have h3 := ht n (by rw [List.mem_range'_1]; omega)
  unfold obB at h3
  rw [List.all_eq_true] at h3
  have hi : pre.length < (divsI 1 n n).length := by rw [← h]; simp
  have h4 := h3 pre.length (List.mem_range.mpr hi)
  unfold obAtB at h4
  have e1 : (divsI 1 n n).getD pre.length 0 = g := by rw [← h]; simp
  have e2 : (divsI 1 n n).take pre.length = pre := by rw [← h]; simp
  rw [e1, e2, Bool.and_eq_true, beq_iff_eq, Bool.not_eq_true', ← Bool.not_eq_true, List.contains_iff_mem] at h4
  exact h4
def obStep (g : Int) (o : Int) (p : Int × Int) : Int := if Int.tmod g p.1 = 0 then o - p.2 else o
def obOwn (x : List Int) (P : List (Int × Int)) (g : Int) : Int := P.foldl (obStep g) (rd x (Int.tmod g (x.length : Int)))
def obRes (x : List Int) : List (Int × Int) → List Int → List Int × Bool
  | P, [] => (P.map (·.2), true)
  | P, g :: gs => if obOwn x P g < 0 then ([], false) else obRes x (P ++ [(g, obOwn x P g)]) gs
def InP (P : List (Int × Int)) : Prop := ∀ p ∈ P, 0 ≤ p.2 ∧ p.2 ≤ 100000000
theorem obFold_le {P : List (Int × Int)} (h : InP P) (g : Int) : ∀ o, (P.foldl (obStep g) o ≤ o) ∧ o - 100000000 * P.length ≤ P.foldl (obStep g) o := by
  induction P with
  | nil => intro o; simp
  | cons p P ih =>
    intro o
    have hp := h p List.mem_cons_self
    obtain ⟨h1, h2⟩ := ih (fun q hq => h q (List.mem_cons_of_mem _ hq)) (obStep g o p)
    rw [List.foldl_cons, List.length_cons]
    have e : obStep g o p = o - p.2 ∨ obStep g o p = o := by
      unfold obStep
      by_cases c : Int.tmod g p.1 = 0
      · exact .inl (if_pos c)
      · exact .inr (if_neg c)
    generalize P.foldl (obStep g) (obStep g o p) = z at h1 h2 ⊢
    rcases e with e | e <;> rw [e] at h1 h2 <;> constructor <;> omega
theorem rest_at {x : List Int} (hx : x.all (inB · 0 100000000) = true) {i : Int} (h0 : 0 ≤ i) (h1 : i < (x.length : Int)) : 0 ≤ rd x i ∧ rd x i ≤ 100000000 := by
  obtain ⟨j, rfl⟩ : ∃ j : Nat, i = (j : Int) := ⟨i.toNat, by omega⟩
  rw [rd_get (by omega)]
  rw [List.all_eq_true] at hx
  exact inB_iff.mp (hx _ (List.getElem_mem _))
theorem obAt_mem {L : List (Int × Int)} (hn : (L.map (·.1)).Nodup) {p : Int × Int} (hp : p ∈ L) : impl_OrbitsByRests.at L p.1 = p.2 := by
  induction L with
  | nil => cases hp
  | cons q L ih =>
    rw [List.map_cons, List.nodup_cons] at hn
    unfold impl_OrbitsByRests.at
    rcases List.mem_cons.mp hp with e | hm
    · subst e; rw [if_pos rfl]
    · rw [if_neg (fun e => hn.1 (by rw [← e]; exact List.mem_map_of_mem hm))]
      exact ih hn.2 hm
theorem obAt_not {L : List (Int × Int)} {k : Int} (h : k ∉ L.map (·.1)) : impl_OrbitsByRests.at L k = 0 := by
  induction L with
  | nil => rfl
  | cons q L ih =>
    rw [List.map_cons, List.mem_cons, not_or] at h
    unfold impl_OrbitsByRests.at
    rw [if_neg h.1]
    exact ih h.2
theorem obSub {many : List (Int × Int)} (hn : (many.map (·.1)).Nodup) (g : Int) : ∀ (P : List (Int × Int)) (o : Int), (∀ p ∈ P, p ∈ many) → InP P → -1000000000000 ≤ o - 100000000 * P.length → o ≤ 100000000 →
    impl_OrbitsByRests.sub many ((P.map (·.1)).filter fun h => Int.tmod g h == 0) o = P.foldl (obStep g) o
  | [], o, _, _, _, _ => rfl
  | p :: P, o, hm, hP, h1, h2 => by
    have hp := hP p List.mem_cons_self
    rw [List.length_cons] at h1
    rw [List.map_cons, List.filter_cons, List.foldl_cons]
    by_cases e : Int.tmod g p.1 = 0
    · rw [if_pos (beq_iff_eq.mpr e)]
      have e1 : obStep g o p = o - p.2 := if_pos e
      have e2 : impl_OrbitsByRests.sub many (p.1 :: (P.map (·.1)).filter fun h => Int.tmod g h == 0) o = impl_OrbitsByRests.sub many ((P.map (·.1)).filter fun h => Int.tmod g h == 0) (wrap64 (o - impl_OrbitsByRests.at many p.1)) := rfl
      rw [e1, e2, obAt_mem hn (hm p List.mem_cons_self), wrap_id (by omega) (by omega)]
      exact obSub hn g P _ (fun q hq => hm q (List.mem_cons_of_mem _ hq)) (fun q hq => hP q (List.mem_cons_of_mem _ hq)) (by omega) (by omega)
    · rw [if_neg (by rw [beq_iff_eq]; exact e)]
      have e1 : obStep g o p = o := if_neg e
      rw [e1]
      exact obSub hn g P _ (fun q hq => hm q (List.mem_cons_of_mem _ hq)) (fun q hq => hP q (List.mem_cons_of_mem _ hq)) (by omega) (by omega)
theorem implOrb_go {x : List Int} (h1 : 1 ≤ x.length) (h2 : x.length ≤ 60) (hx : x.all (inB · 0 100000000) = true) : ∀ (gs : List Int) (P : List (Int × Int)), P.map (·.1) ++ gs = divsI 1 x.length x.length → (P.map (·.1)).Nodup → InP P → P.length + gs.length ≤ 60 →
    Ev (fun k => impl_OrbitsByRests.go k x gs P.reverse (P.map (·.2))) (obRes x P gs)
  | [], P, h, hn, hP, hl => Ev.now _
  | g :: gs, P, h, hn, hP, hl => by
    obtain ⟨o1, o2⟩ := ob_at h1 h2 h
    have hg : g ∈ divsI 1 x.length x.length := by rw [← h]; simp
    obtain ⟨j, rfl, j1, j2⟩ := mem_divsI hg
    have hr := rem_at (j := j) h1
    have hb := rest_at hx hr.1 hr.2
    have hf := obFold_le hP (j : Int) (rd x (Int.tmod (j : Int) (x.length : Int)))
    rw [List.length_cons] at hl
    rw [Int.toNat_natCast] at o1
    have hn2 : (P.reverse.map (·.1)).Nodup := by rw [List.map_reverse]; exact List.pairwise_reverse.mpr (hn.imp fun h e => h e.symm)
    have hsub : impl_OrbitsByRests.sub P.reverse (divsI 1 j j) (rd x (Int.tmod (j : Int) (x.length : Int))) = obOwn x P (j : Int) := by
      rw [o1]
      unfold impl_OrbitsByRests.sub
      rw [List.foldl_append]
      have := obSub hn2 (j : Int) P (rd x (Int.tmod (j : Int) (x.length : Int))) (fun p hp => List.mem_reverse.mpr hp) hP (by omega) (by omega)
      unfold impl_OrbitsByRests.sub at this
      rw [this, List.foldl_cons, List.foldl_nil, obAt_not (by rw [List.map_reverse, List.mem_reverse]; exact o2), Int.sub_zero]
      unfold obOwn
      exact wrap_id (by omega) (by omega)
    have hwf : ∀ y : Int, -9223372036854775808 ≤ y → y ≤ 9223372036854775807 → (Lit.int .i64 y).wf = true := fun y a b => by
      exact WalkArith.wf_i64 (by omega)
    have hown : -1000000000000 ≤ obOwn x P (j : Int) ∧ obOwn x P (j : Int) ≤ 100000000 := by unfold obOwn; omega
    have hds : (divsI 1 j j).length ≤ 60 := by
      unfold divsI
      refine Nat.le_trans (List.length_filter_le _ _) ?_
      rw [List.length_map, List.length_range']
      omega
    have hdw : ((divsI 1 j j).all fun d => (Lit.int .i64 d).wf) = true := by
      rw [List.all_eq_true]
      intro d hd
      obtain ⟨m, rfl, m1, m2⟩ := mem_divsI hd
      exact hwf _ (by omega) (by omega)
    have hE : Ev (fun k => impl_divisors.f k (j : Int)) (divsI 1 j j) := Ev.of (impl_divisors.mono _) (div_at j1 (by omega))
    simp only [impl_OrbitsByRests.go]
    refine ev_pos ⟨hwf _ (by omega) (by omega), hr.1, hr.2⟩ (Ev.bind hE (ev_pos ⟨by omega, hdw, by rw [hsub]; exact hwf _ (by omega) (by omega), by rw [List.length_reverse]; omega⟩ ?_))
    rw [hsub, obRes]
    refine ev_ite (fun c => ?_) (fun c => ?_)
    · rw [if_pos c]; exact Ev.now _
    · rw [if_neg c]
      refine ev_pos (by rw [List.length_map]; omega) ?_
      have e1 : ((j : Int), obOwn x P (j : Int)) :: P.reverse = (P ++ [((j : Int), obOwn x P (j : Int))]).reverse := by simp
      have e2 : P.map (·.2) ++ [obOwn x P (j : Int)] = (P ++ [((j : Int), obOwn x P (j : Int))]).map (·.2) := by simp
      rw [e1, e2]
      refine implOrb_go h1 h2 hx gs _ (by rw [← h]; simp) (by rw [List.map_append]; exact List.nodup_append.mpr ⟨hn, by simp, by intro a ha b hb; simp at hb; subst hb; intro e; subst e; exact o2 ha⟩) (fun p hp => ?_) (by rw [List.length_append, List.length_singleton]; omega)
      rcases List.mem_append.mp hp with hp | hp
      · exact hP p hp
      · rw [List.mem_singleton] at hp
        subst hp
        exact ⟨by show 0 ≤ obOwn x P (j : Int); omega, hown.2⟩
theorem divsI_app (n : Nat) : ∀ (q j : Nat), divsI j (q + 1) n = if Int.tmod (n : Int) (j : Int) == 0 then (j : Int) :: divsI (j + 1) q n else divsI (j + 1) q n := fun q j => by
  unfold divsI
  rw [List.range'_succ, List.map_cons, List.filter_cons]
theorem specOrb_l1 {x : List Int} (h2 : x.length ≤ 60) (g : Nat) (hg : g ≤ 60) (P : List (Int × Int)) (hl : P.length ≤ 60) (hP : InP P) (hnz : ∀ p ∈ P, p.1 ≠ 0) (n : Int) (R : List Int × Bool) : ∀ (d j : Nat) (o : Int), j + d = P.length → -1000000000000 ≤ o - 100000000 * d → o ≤ 100000000 →
    Ev (fun k => if (P.drop j).foldl (obStep (g : Int)) o < 0 then some (([] : List Int), false) else spec_OrbitsByRests.l0 k x n (P.map (·.1) ++ [(g : Int)]) (P.map (·.2) ++ [(P.drop j).foldl (obStep (g : Int)) o]) ((g + 1 : Nat) : Int)) R →
    Ev (fun k => spec_OrbitsByRests.l1 k x n (P.map (·.1)) (P.map (·.2)) (g : Int) o (P.map (·.1)) ((P.map (·.1)).length : Int) (j : Int)) R
  | 0, j, o, h, b1, b2, c => by
    refine Ev.step (fun _ => spec_OrbitsByRests.l1.eq_2 ..) (ev_neg (by rw [List.length_map]; omega) ?_)
    rw [List.drop_of_length_le (by omega), List.foldl_nil] at c
    refine ev_ite (fun e => ?_) (fun e => ?_)
    · have : R = ([], false) := ev_det c (ev_pos e (Ev.now _))
      rw [this]; exact Ev.now _
    · refine ev_pos (by rw [List.length_map]; omega) (ev_pos (by rw [List.length_map]; omega) ?_)
      rw [wrap_succ (by omega)]
      obtain ⟨K, hK⟩ := c
      exact ⟨K, fun k hk => (if_neg e).symm.trans (hK k hk)⟩
  | d + 1, j, o, h, b1, b2, c => by
    have hj : j < P.length := by omega
    have hm := List.getElem_mem hj
    have hp := hP _ hm
    refine Ev.step (fun _ => spec_OrbitsByRests.l1.eq_2 ..) ?_
    rw [rd_get (l := P.map (·.1)) (by rw [List.length_map]; exact hj), List.getElem_map, rd_get (l := P.map (·.2)) (by rw [List.length_map]; exact hj), List.getElem_map, wrap_succ (by omega)]
    rw [List.drop_eq_getElem_cons hj, List.foldl_cons] at c
    refine ev_pos (by rw [List.length_map]; omega) (ev_pos (by omega) (ev_pos (by rw [List.length_map]; omega) (ev_neg (hnz _ hm) (ev_ite (fun e => ?_) (fun e => ?_)))))
    · have e1 : obStep (g : Int) o P[j] = o - P[j].2 := if_pos e
      rw [e1] at c
      refine ev_pos (by rw [List.length_map]; omega) ?_
      rw [wrap_id (by omega) (by omega)]
      exact specOrb_l1 h2 g hg P hl hP hnz n R d (j + 1) _ (by omega) (by omega) (by omega) c
    · have e1 : obStep (g : Int) o P[j] = o := if_neg e
      rw [e1] at c
      exact specOrb_l1 h2 g hg P hl hP hnz n R d (j + 1) _ (by omega) (by omega) (by omega) c
theorem specOrb_l0 {x : List Int} (h1 : 1 ≤ x.length) (h2 : x.length ≤ 60) (hx : x.all (inB · 0 100000000) = true) : ∀ (d j : Nat) (P : List (Int × Int)), j + d = x.length + 1 → 1 ≤ j → P.map (·.1) ++ divsI j d x.length = divsI 1 x.length x.length → InP P → P.length + d ≤ 60 →
    Ev (fun k => spec_OrbitsByRests.l0 k x (x.length : Int) (P.map (·.1)) (P.map (·.2)) (j : Int)) (obRes x P (divsI j d x.length))
  | 0, j, P, h, hj, hP0, hP, hl => Ev.step (fun _ => spec_OrbitsByRests.l0.eq_2 ..) (ev_neg (by omega) (Ev.now _))
  | d + 1, j, P, h, hj, hP0, hP, hl => by
    have hr := rem_at (j := j) h1
    have ht : 0 ≤ Int.tmod (x.length : Int) (j : Int) := Int.tmod_nonneg _ (by omega)
    refine Ev.step (fun _ => spec_OrbitsByRests.l0.eq_2 ..) (ev_pos (by omega) (ev_neg (by omega) ?_))
    rw [divsI_app] at hP0 ⊢
    refine ev_ite (fun e => ?_) (fun e => ?_)
    · have e1 : ¬ (Int.tmod (x.length : Int) (j : Int) == 0) = true := by rw [beq_iff_eq]; omega
      rw [if_neg e1] at hP0 ⊢
      rw [wrap_succ (by omega)]
      exact specOrb_l0 h1 h2 hx d (j + 1) P (by omega) (by omega) hP0 hP (by omega)
    · have e1 : (Int.tmod (x.length : Int) (j : Int) == 0) = true := by rw [beq_iff_eq]; omega
      rw [if_pos e1] at hP0 ⊢
      have hb := rest_at hx hr.1 hr.2
      have hf := obFold_le hP (j : Int) (rd x (Int.tmod (j : Int) (x.length : Int)))
      refine ev_neg (by omega) (ev_pos hr.1 (ev_pos hr.2 ?_))
      refine specOrb_l1 h2 j (by omega) P (by omega) hP (fun p hp => ?_) _ _ P.length 0 _ (by omega) (by omega) (by omega) ?_
      · have : p.1 ∈ divsI 1 x.length x.length := by rw [← hP0]; exact List.mem_append_left _ (List.mem_map_of_mem hp)
        obtain ⟨m, hm, m1, m2⟩ := mem_divsI this
        omega
      · rw [List.drop_zero, obRes]
        show Ev (fun k => if obOwn x P (j : Int) < 0 then _ else _) _
        refine ev_ite (fun c => ?_) (fun c => ?_)
        · rw [if_pos c]; exact Ev.now _
        · rw [if_neg c]
          have e2 : P.map (·.1) ++ [(j : Int)] = (P ++ [((j : Int), obOwn x P (j : Int))]).map (·.1) := by simp
          have e3 : P.map (·.2) ++ [obOwn x P (j : Int)] = (P ++ [((j : Int), obOwn x P (j : Int))]).map (·.2) := by simp
          show Ev (fun k => spec_OrbitsByRests.l0 k x (x.length : Int) (P.map (·.1) ++ [(j : Int)]) (P.map (·.2) ++ [obOwn x P (j : Int)]) ((j + 1 : Nat) : Int)) _
          rw [e2, e3]
          refine specOrb_l0 h1 h2 hx d (j + 1) _ (by omega) (by omega) (by rw [← hP0]; simp) (fun p hp => ?_) (by rw [List.length_append, List.length_singleton]; omega)
          rcases List.mem_append.mp hp with hp | hp
          · exact hP p hp
          · rw [List.mem_singleton] at hp
            subst hp
            refine ⟨by show 0 ≤ obOwn x P (j : Int); omega, ?_⟩
            show obOwn x P (j : Int) ≤ 100000000
            unfold obOwn; omega
theorem obRes_len (x : List Int) : ∀ (gs : List Int) (P : List (Int × Int)), (obRes x P gs).1.length ≤ P.length + gs.length
  | [], P => by rw [obRes]; simp
  | g :: gs, P => by
    rw [obRes]
    split
    · exact Nat.zero_le _
    · have := obRes_len x gs (P ++ [(g, obOwn x P g)])
      rw [List.length_append, List.length_singleton] at this
      rw [List.length_cons]
      omega
theorem agree_FnExactOrbitsByRests (x : List Int) (hx : x.length ≤ 1048576) : ∃ r : List Int × Bool, r.1.length ≤ 1000 ∧ Ev (fun k => spec_OrbitsByRests.f k x) r ∧ Ev (fun k => impl_OrbitsByRests.f k x) r := by
  by_cases h : (inB (x.length : Int) 1 60 && x.all (inB · 0 100000000)) = true
  · have hb := (Bool.and_eq_true _ _).mp h
    have b := inB_iff.mp hb.1
    have hds : (divsI 1 x.length x.length).length ≤ 60 := by
      unfold divsI
      refine Nat.le_trans (List.length_filter_le _ _) ?_
      rw [List.length_map, List.length_range']
      omega
    refine ⟨obRes x [] (divsI 1 x.length x.length), ?_, ?_, ?_⟩
    · have := obRes_len x (divsI 1 x.length x.length) []
      rw [List.length_nil] at this
      omega
    · refine Ev.bind (svRests_ev x (by omega)) (ev_pos h ?_)
      exact specOrb_l0 (by omega) (by omega) hb.2 x.length 1 [] (by omega) (by omega) rfl (fun p hp => by cases hp) (by simp; omega)
    · refine ev_call (areRests_eq x (by omega)) (ev_pos h (ev_pos (by omega) (Ev.bind (Ev.of (impl_divisors.mono _) (div_at (by omega) (by omega))) (ev_pos (by omega) ?_))))
      exact implOrb_go (by omega) (by omega) hb.2 _ [] rfl List.Pairwise.nil (fun p hp => by cases hp) (by simpa using hds)
  · exact ⟨([], false), by simp, Ev.bind (svRests_ev x (by omega)) (ev_neg h (Ev.now _)), ev_call (areRests_eq x (by omega)) (ev_neg h (Ev.now _))⟩
end Go.Proofs.Ytnhhkjodmcepmaa.M
end
section
namespace Go.Proofs.Ytnhhkjodmcepmaa.L
open Go.RowKit Go.Proofs.YtnhhkjodmcepmaaW.PrintWords Go.Proofs.YtnhhkjodmcepmaaW.PrintLast Go.Proofs.YtnhhkjodmcepmaaW.PrintMore
attribute [local go_sem] max2_int min2_int max_two min_two max_three min_three max_four min_four
set_option linter.unusedVariables false
set_option linter.unusedSimpArgs false
def laws_szIntS.f (l0 : List Int) (a1 : Int) : Option (Int) := if (wrap64 (a1 - (l0.length : Int))) < 0 then (some (-1)) else (some (wrap64 (a1 - (l0.length : Int))))
set_option maxHeartbeats 8000000 in
set_option maxRecDepth 100000 in
theorem laws_szIntS.calls (A0 : Option Addr) (c0 : Nat) (l0 : List Int) (a1 : Int) (r : Int) (w : World) (hr0 : Kd.C (Kd.int .i64) w A0 l0.length l0) (hc0 : l0.length ≤ c0) (h : laws_szIntS.f l0 a1 = some r) :
    Calls Try.prog 26 #[.slice A0 l0.length c0, .int .i64 a1] w fun e w' => e = .returned (.int .i64 r) ∧ Drawn0 w w' := by
  have HR0 := Aside0.mk hr0
  have HC0 := Aside0.mk hc0
  clear hr0 hc0
  have H : (if (wrap64 (a1 - (l0.length : Int))) < 0 then (some (-1)) else (some (wrap64 (a1 - (l0.length : Int))))) = some r := h
  clear h
  by_cases c3 : (wrap64 (a1 - (l0.length : Int))) < 0
  · rw [if_pos c3] at H
    have c3b0 : decide ((wrap64 (a1 - (l0.length : Int))) < 0) = true := decide_eq_true c3
    clear c3
    obtain rfl := Option.some.inj H
    go_enter Try.func26, Try.ntmps26
    go_wp2
    go_ret
    exact ⟨by first | rfl | (simp; done) | (simp [*]; done), by repeat (first | exact Drawn0.refl _ | apply Drawn0.step)⟩
  · rw [if_neg c3] at H
    have c3b0 : decide ((wrap64 (a1 - (l0.length : Int))) < 0) = false := decide_eq_false c3
    clear c3
    obtain rfl := Option.some.inj H
    go_enter Try.func26, Try.ntmps26
    go_wp2
    go_ret
    exact ⟨by first | rfl | (simp; done) | (simp [*]; done), by repeat (first | exact Drawn0.refl _ | apply Drawn0.step)⟩
end Go.Proofs.Ytnhhkjodmcepmaa.L
end
section
namespace Go.Proofs.Ytnhhkjodmcepmaa.L
open Go.RowKit Go.Proofs.YtnhhkjodmcepmaaW.PrintWords Go.Proofs.YtnhhkjodmcepmaaW.PrintLast Go.Proofs.YtnhhkjodmcepmaaW.PrintMore
attribute [local go_sem] max2_int min2_int max_two min_two max_three min_three max_four min_four
set_option linter.unusedVariables false
set_option linter.unusedSimpArgs false
def laws_szPoset.f (l0_0 : List Int) (a1 : Int) : Option (Int) := (laws_szIntS.f l0_0 a1).bind fun t168 => (if t168 < 0 then (some (-1)) else (some t168))
set_option maxHeartbeats 8000000 in
set_option maxRecDepth 100000 in
theorem laws_szPoset.calls (A0_0 : Option Addr) (c0_0 : Nat) (l0_0 : List Int) (a1 : Int) (r : Int) (w : World) (hr0_0 : Kd.C (Kd.int .i64) w A0_0 l0_0.length l0_0) (hc0_0 : l0_0.length ≤ c0_0) (h : laws_szPoset.f l0_0 a1 = some r) :
    Calls Try.prog 12 #[.agg #[.slice A0_0 l0_0.length c0_0], .int .i64 a1] w fun e w' => e = .returned (.int .i64 r) ∧ Below w.heap.size w w' := by
  have hu30 := Try.underlying30
  have HR0_0 := Aside0.mk hr0_0
  have HC0_0 := Aside0.mk hc0_0
  clear hr0_0 hc0_0
  have HB := Aside0.mk (Below.refl w.heap.size w)
  have H : ((laws_szIntS.f l0_0 a1).bind fun t168 => (if t168 < 0 then (some (-1)) else (some t168))) = some r := h
  clear h
  replace H := Option.bind_eq_some_iff.mp H
  obtain ⟨t168, A30, H⟩ := H
  replace H : (if t168 < 0 then (some (-1)) else (some t168)) = some r := H
  have A3 := Aside0.mk A30
  clear A30
  by_cases c4 : t168 < 0
  · rw [if_pos c4] at H
    have c4b0 : decide (t168 < 0) = true := decide_eq_true c4
    clear c4
    obtain rfl := Option.some.inj H
    go_enter Try.func12, Try.ntmps12
    go_wp2_with (first | ((with_reducible refine gate_dst (N := 2) rfl ?_); refine box_event ?hg (N := 2) ?hd (cs := #[.slice A0_0 l0_0.length c0_0]) (t := 30) ?hr ?_; (case hd => rfl); (case hg => rfl); (case hr => first | (go_simp; done) | (go_simp; rfl)); intro gb167 hg w5 hbox hb; have n0_ := Aside0.mk (below_step (by repeat (first | (with_reducible first | exact HB.out | apply below_alloc | apply pw_below_drewN | apply below_drew1) | exact HB.out)) hb); have n1_ := Aside0.mk (hbox); have n2_ := Aside0.mk ((by rw [hg]; exact (below_size (by repeat (first | (with_reducible first | exact HB.out | apply below_alloc | apply pw_below_drewN | apply below_drew1) | exact HB.out))) : w.heap.size ≤ gb167)); have n3_ := Aside0.mk ((by rw [hg]; exact (below_size (by repeat (first | (with_reducible first | exact HB.out | apply below_alloc | apply pw_below_drewN | apply below_drew1) | exact HB.out))) : w.heap.size ≤ gb167)); clear HB; have HB := n0_; have BK167 := n1_; have GW167 := n2_; have GE167 := n3_; clear n0_ n1_ n2_ n3_; clear hb hbox hg; have hcz6_0 : w5.cell? ⟨gb167, 0, none⟩ = some (.slice A0_0 l0_0.length c0_0) := (blk_cell BK167.out 0).trans rfl; have hfz6_0 := blk_frozen BK167.out 0) | ((with_reducible refine gate_callee (f := 26) rfl ?_); refine goesL_ (some 8) rfl rfl Try.func26 (by kernel_rfl) rfl #[.slice A0_0 l0_0.length c0_0, .int .i64 a1] rfl (by (try simp only [List.map_toArray, List.map_cons, List.map_nil]); first | done | rfl | (simp only [List.length_drop, List.length_take]; rfl)) ?_; (with_reducible refine (laws_szIntS.calls _ _ l0_0 a1 t168 _ ?side1 ?side2 A3.out).mono ?_); (case side1 => repeat (first | exact (Kd.C_below HR0_0.out HB.out) | (with_reducible refine Kd.C_alloc ?_ _) | (with_reducible refine Kd.C_drewN ?_ _) | (with_reducible refine Kd.C_drew ?_))); (case side2 => exact HC0_0.out); rintro e w' ⟨rfl, ⟨nd, rfl⟩⟩; refine ⟨_, rfl, ?_⟩))
    go_ret
    exact ⟨by first | rfl | (simp [errW_none, errW_some] <;> rfl) | (simp [*, errW_none, errW_some] <;> rfl), by repeat (first | (with_reducible first | exact HB.out | apply below_alloc | apply pw_below_drewN | apply below_drew1 | refine below_set ?_ GE167.out) | exact HB.out)⟩
  · rw [if_neg c4] at H
    have c4b0 : decide (t168 < 0) = false := decide_eq_false c4
    clear c4
    obtain rfl := Option.some.inj H
    go_enter Try.func12, Try.ntmps12
    go_wp2_with (first | ((with_reducible refine gate_dst (N := 2) rfl ?_); refine box_event ?hg (N := 2) ?hd (cs := #[.slice A0_0 l0_0.length c0_0]) (t := 30) ?hr ?_; (case hd => rfl); (case hg => rfl); (case hr => first | (go_simp; done) | (go_simp; rfl)); intro gb167 hg w7 hbox hb; have n0_ := Aside0.mk (below_step (by repeat (first | (with_reducible first | exact HB.out | apply below_alloc | apply pw_below_drewN | apply below_drew1) | exact HB.out)) hb); have n1_ := Aside0.mk (hbox); have n2_ := Aside0.mk ((by rw [hg]; exact (below_size (by repeat (first | (with_reducible first | exact HB.out | apply below_alloc | apply pw_below_drewN | apply below_drew1) | exact HB.out))) : w.heap.size ≤ gb167)); have n3_ := Aside0.mk ((by rw [hg]; exact (below_size (by repeat (first | (with_reducible first | exact HB.out | apply below_alloc | apply pw_below_drewN | apply below_drew1) | exact HB.out))) : w.heap.size ≤ gb167)); clear HB; have HB := n0_; have BK167 := n1_; have GW167 := n2_; have GE167 := n3_; clear n0_ n1_ n2_ n3_; clear hb hbox hg; have hcz8_0 : w7.cell? ⟨gb167, 0, none⟩ = some (.slice A0_0 l0_0.length c0_0) := (blk_cell BK167.out 0).trans rfl; have hfz8_0 := blk_frozen BK167.out 0) | ((with_reducible refine gate_callee (f := 26) rfl ?_); refine goesL_ (some 8) rfl rfl Try.func26 (by kernel_rfl) rfl #[.slice A0_0 l0_0.length c0_0, .int .i64 a1] rfl (by (try simp only [List.map_toArray, List.map_cons, List.map_nil]); first | done | rfl | (simp only [List.length_drop, List.length_take]; rfl)) ?_; (with_reducible refine (laws_szIntS.calls _ _ l0_0 a1 t168 _ ?side1 ?side2 A3.out).mono ?_); (case side1 => repeat (first | exact (Kd.C_below HR0_0.out HB.out) | (with_reducible refine Kd.C_alloc ?_ _) | (with_reducible refine Kd.C_drewN ?_ _) | (with_reducible refine Kd.C_drew ?_))); (case side2 => exact HC0_0.out); rintro e w' ⟨rfl, ⟨nd, rfl⟩⟩; refine ⟨_, rfl, ?_⟩))
    go_ret
    exact ⟨by first | rfl | (simp [errW_none, errW_some] <;> rfl) | (simp [*, errW_none, errW_some] <;> rfl), by repeat (first | (with_reducible first | exact HB.out | apply below_alloc | apply pw_below_drewN | apply below_drew1 | refine below_set ?_ GE167.out) | exact HB.out)⟩
end Go.Proofs.Ytnhhkjodmcepmaa.L
end
section
namespace Go.Proofs.Ytnhhkjodmcepmaa.L
open Go.RowKit Go.Proofs.YtnhhkjodmcepmaaW.PrintWords Go.Proofs.YtnhhkjodmcepmaaW.PrintLast Go.Proofs.YtnhhkjodmcepmaaW.PrintMore
attribute [local go_sem] max2_int min2_int max_two min_two max_three min_three max_four min_four
set_option linter.unusedVariables false
set_option linter.unusedSimpArgs false
def laws_toPoset.f (k : Nat) (l0_0 : List Int) : Option (List Int) := (laws_toIntS.f k l0_0).bind fun t215 => (some t215)
theorem laws_toPoset.mono : ∀ a0 k, LeO (laws_toPoset.f k a0) (laws_toPoset.f (k + 1) a0) := by
  intro a0 k
  unfold laws_toPoset.f
  repeat' first
      | (with_reducible exact laws_toIntS.mono _ _)
      | (with_reducible exact LeO.refl _)
      | (with_reducible exact LeO.none _)
      | (with_reducible refine LeO.ite ?_ ?_)
      | (with_reducible refine LeO.bind ?_ (fun _ => ?_))
      | exact laws_toIntS.mono _ _
      | exact LeO.none _
      | refine LeO.ite ?_ ?_
      | refine LeO.bind ?_ (fun _ => ?_)
set_option maxHeartbeats 8000000 in
set_option maxRecDepth 100000 in
theorem laws_toPoset.calls (k : Nat) (A0_0 : Option Addr) (c0_0 : Nat) (l0_0 : List Int) (r : List Int) (w : World) (hr0_0 : Kd.C (Kd.int .i64) w A0_0 l0_0.length l0_0) (hc0_0 : l0_0.length ≤ c0_0) (h : laws_toPoset.f k l0_0 = some r) :
    Calls Try.prog 14 #[.agg #[.slice A0_0 l0_0.length c0_0]] w fun e w' => ∃ v0_ : Value, e = .returned (.agg #[v0_]) ∧ Kd.R (Kd.int .i64) 3 w' w.heap.size (fun _ => True) v0_ r ∧ Below w.heap.size w w' := by
  have hu30 := Try.underlying30
  have hu35 := Try.underlying35
  have HR0_0 := Aside0.mk hr0_0
  have HC0_0 := Aside0.mk hc0_0
  clear hr0_0 hc0_0
  have HB := Aside0.mk (Below.refl w.heap.size w)
  have H : ((laws_toIntS.f k l0_0).bind fun t215 => (some t215)) = some r := h
  clear h
  replace H := Option.bind_eq_some_iff.mp H
  obtain ⟨t215, A20, H⟩ := H
  replace H : (some t215) = some r := H
  have A2 := Aside0.mk A20
  clear A20
  obtain rfl := Option.some.inj H
  go_enter Try.func14, Try.ntmps14
  go_wp2_with (first | ((with_reducible refine gate_dst (N := 1) rfl ?_); refine box_event ?hg (N := 1) ?hd (cs := #[.slice A0_0 l0_0.length c0_0]) (t := 30) ?hr ?_; (case hd => rfl); (case hg => rfl); (case hr => first | (go_simp; done) | (go_simp; rfl)); intro gb212 hg w3 hbox hb; have n0_ := Aside0.mk (below_step (by repeat (first | (with_reducible first | exact HB.out | apply below_alloc | apply pw_below_drewN | apply below_drew1) | exact HB.out)) hb); have n1_ := Aside0.mk (hbox); have n2_ := Aside0.mk ((by rw [hg]; exact (below_size (by repeat (first | (with_reducible first | exact HB.out | apply below_alloc | apply pw_below_drewN | apply below_drew1) | exact HB.out))) : w.heap.size ≤ gb212)); have n3_ := Aside0.mk ((by rw [hg]; exact (below_size (by repeat (first | (with_reducible first | exact HB.out | apply below_alloc | apply pw_below_drewN | apply below_drew1) | exact HB.out))) : w.heap.size ≤ gb212)); clear HB; have HB := n0_; have BK212 := n1_; have GW212 := n2_; have GE212 := n3_; clear n0_ n1_ n2_ n3_; clear hb hbox hg) | ((with_reducible refine gate_dst (N := 2) rfl ?_); refine box_event ?hg (N := 2) ?hd (cs := #[.slice none 0 0]) (t := 35) ?hr ?_; (case hd => rfl); (case hg => rfl); (case hr => first | (go_simp; done) | (go_simp; rfl)); intro gb213 hg w4 hbox hb; have n0_ := Aside0.mk (blk_below (g := gb212) (o := .cells #[.slice A0_0 l0_0.length c0_0] 30 (0, 0)) (by (with_reducible repeat (first | refine blk_drewN ?_ _ | refine blk_drew ?_ | refine blk_alloc ?_ _)); exact BK212.out) hb); have n1_ := Aside0.mk (below_step (by repeat (first | (with_reducible first | exact HB.out | apply below_alloc | apply pw_below_drewN | apply below_drew1 | refine below_set ?_ GE212.out) | exact HB.out)) hb); have n2_ := Aside0.mk (hbox); have n3_ := Aside0.mk ((by rw [hg]; exact (below_size (by repeat (first | (with_reducible first | exact HB.out | apply below_alloc | apply pw_below_drewN | apply below_drew1 | refine below_set ?_ GE212.out) | exact HB.out))) : w.heap.size ≤ gb213)); have n4_ := Aside0.mk ((by rw [hg]; exact (below_size (by repeat (first | (with_reducible first | exact HB.out | apply below_alloc | apply pw_below_drewN | apply below_drew1 | refine below_set ?_ GE212.out) | exact HB.out))) : w.heap.size ≤ gb213)); have n5_ := Aside0.mk ((by rw [hg]; exact Nat.ne_of_lt (blk_lt (g := gb212) (o := .cells #[.slice A0_0 l0_0.length c0_0] 30 (0, 0)) (by (with_reducible repeat (first | refine blk_drewN ?_ _ | refine blk_drew ?_ | refine blk_alloc ?_ _)); exact BK212.out)) : gb212 ≠ gb213)); have n6_ := Aside0.mk ((by rw [hg]; exact Nat.ne_of_gt (blk_lt (g := gb212) (o := .cells #[.slice A0_0 l0_0.length c0_0] 30 (0, 0)) (by (with_reducible repeat (first | refine blk_drewN ?_ _ | refine blk_drew ?_ | refine blk_alloc ?_ _)); exact BK212.out)) : gb213 ≠ gb212)); clear BK212; clear HB; have BK212 := n0_; have HB := n1_; have BK213 := n2_; have GW213 := n3_; have GE213 := n4_; have NB212_213 := n5_; have NB213_212 := n6_; clear n0_ n1_ n2_ n3_ n4_ n5_ n6_; clear hb hbox hg) | ((with_reducible refine gate_dst (N := 3) rfl ?_); refine box_event ?hg (N := 3) ?hd (cs := #[.slice none 0 0]) (t := 35) ?hr ?_; (case hd => rfl); (case hg => rfl); (case hr => first | (go_simp; done) | (go_simp; rfl)); intro gb214 hg w5 hbox hb; have n0_ := Aside0.mk (blk_below (g := gb212) (o := .cells #[.slice A0_0 l0_0.length c0_0] 30 (0, 0)) (by (with_reducible repeat (first | refine blk_drewN ?_ _ | refine blk_drew ?_ | refine blk_alloc ?_ _)); exact BK212.out) hb); have n1_ := Aside0.mk (blk_below (g := gb213) (o := .cells #[.slice none 0 0] 35 (0, 0)) (by (with_reducible repeat (first | refine blk_drewN ?_ _ | refine blk_drew ?_ | refine blk_alloc ?_ _)); exact BK213.out) hb); have n2_ := Aside0.mk (below_step (by repeat (first | (with_reducible first | exact HB.out | apply below_alloc | apply pw_below_drewN | apply below_drew1 | refine below_set ?_ GE212.out | refine below_set ?_ GE213.out) | exact HB.out)) hb); have n3_ := Aside0.mk (hbox); have n4_ := Aside0.mk ((by rw [hg]; exact (below_size (by repeat (first | (with_reducible first | exact HB.out | apply below_alloc | apply pw_below_drewN | apply below_drew1 | refine below_set ?_ GE212.out | refine below_set ?_ GE213.out) | exact HB.out))) : w.heap.size ≤ gb214)); have n5_ := Aside0.mk ((by rw [hg]; exact (below_size (by repeat (first | (with_reducible first | exact HB.out | apply below_alloc | apply pw_below_drewN | apply below_drew1 | refine below_set ?_ GE212.out | refine below_set ?_ GE213.out) | exact HB.out))) : w.heap.size ≤ gb214)); have n6_ := Aside0.mk ((by rw [hg]; exact Nat.ne_of_lt (blk_lt (g := gb212) (o := .cells #[.slice A0_0 l0_0.length c0_0] 30 (0, 0)) (by (with_reducible repeat (first | refine blk_drewN ?_ _ | refine blk_drew ?_ | refine blk_alloc ?_ _)); exact BK212.out)) : gb212 ≠ gb214)); have n7_ := Aside0.mk ((by rw [hg]; exact Nat.ne_of_gt (blk_lt (g := gb212) (o := .cells #[.slice A0_0 l0_0.length c0_0] 30 (0, 0)) (by (with_reducible repeat (first | refine blk_drewN ?_ _ | refine blk_drew ?_ | refine blk_alloc ?_ _)); exact BK212.out)) : gb214 ≠ gb212)); have n8_ := Aside0.mk ((by rw [hg]; exact Nat.ne_of_lt (blk_lt (g := gb213) (o := .cells #[.slice none 0 0] 35 (0, 0)) (by (with_reducible repeat (first | refine blk_drewN ?_ _ | refine blk_drew ?_ | refine blk_alloc ?_ _)); exact BK213.out)) : gb213 ≠ gb214)); have n9_ := Aside0.mk ((by rw [hg]; exact Nat.ne_of_gt (blk_lt (g := gb213) (o := .cells #[.slice none 0 0] 35 (0, 0)) (by (with_reducible repeat (first | refine blk_drewN ?_ _ | refine blk_drew ?_ | refine blk_alloc ?_ _)); exact BK213.out)) : gb214 ≠ gb213)); clear BK212; clear BK213; clear HB; have BK212 := n0_; have BK213 := n1_; have HB := n2_; have BK214 := n3_; have GW214 := n4_; have GE214 := n5_; have NB212_214 := n6_; have NB214_212 := n7_; have NB213_214 := n8_; have NB214_213 := n9_; clear n0_ n1_ n2_ n3_ n4_ n5_ n6_ n7_ n8_ n9_; clear hb hbox hg; have hnb6 := NB212_213.out; have hnc6 := NB213_212.out; have hnb7 := NB212_214.out; have hnc7 := NB214_212.out; have hcz8_0 : w5.cell? ⟨gb212, 0, none⟩ = some (.slice A0_0 l0_0.length c0_0) := (blk_cell BK212.out 0).trans rfl; have hfz8_0 := blk_frozen BK212.out 0) | ((with_reducible refine gate_callee (f := 7) rfl ?_); refine goesL_ (some 6) rfl rfl Try.func7 (by kernel_rfl) rfl #[.slice A0_0 l0_0.length c0_0] rfl (by (try simp only [List.map_toArray, List.map_cons, List.map_nil]); first | done | rfl | (simp only [List.length_drop, List.length_take]; rfl)) ?_; (with_reducible refine (laws_toIntS.calls k _ _ l0_0 t215 _ ?side1 ?side2 A2.out).mono ?_); (case side1 => repeat (first | exact (Kd.C_below HR0_0.out HB.out) | (with_reducible refine Kd.C_alloc ?_ _) | (with_reducible refine Kd.C_drewN ?_ _) | (with_reducible refine Kd.C_drew ?_))); (case side2 => exact HC0_0.out); rintro e w9 ⟨v216, rfl, ho0, hb⟩; refine ⟨_, rfl, ?_⟩; have n0_ := Aside0.mk (Kd.R_lower ho0 (below_size (by repeat (first | (with_reducible first | exact HB.out | apply below_alloc | apply pw_below_drewN | apply below_drew1 | refine below_set ?_ GE212.out | refine below_set ?_ GE213.out | refine below_set ?_ GE214.out) | exact HB.out)))); have n1_ := Aside0.mk (blk_below (g := gb212) (o := .cells #[.slice A0_0 l0_0.length c0_0] 30 (0, 0)) (by (with_reducible repeat (first | refine blk_drewN ?_ _ | refine blk_drew ?_ | refine blk_alloc ?_ _)); exact BK212.out) hb); have n2_ := Aside0.mk (blk_below (g := gb213) (o := .cells #[.slice none 0 0] 35 (0, 0)) (by (with_reducible repeat (first | refine blk_drewN ?_ _ | refine blk_drew ?_ | refine blk_alloc ?_ _)); exact BK213.out) hb); have n3_ := Aside0.mk (blk_below (g := gb214) (o := .cells #[.slice none 0 0] 35 (0, 0)) (by (with_reducible repeat (first | refine blk_drewN ?_ _ | refine blk_drew ?_ | refine blk_alloc ?_ _)); exact BK214.out) hb); have n4_ := Aside0.mk (below_step (by repeat (first | (with_reducible first | exact HB.out | apply below_alloc | apply pw_below_drewN | apply below_drew1 | refine below_set ?_ GE212.out | refine below_set ?_ GE213.out | refine below_set ?_ GE214.out) | exact HB.out)) hb); clear BK212; clear BK213; clear BK214; clear HB; have HO217 := n0_; have BK212 := n1_; have BK213 := n2_; have BK214 := n3_; have HB := n4_; clear n0_ n1_ n2_ n3_ n4_; (try clear hb); (try clear hb2); (try clear hk); (try clear hi); (try clear ho0); obtain ⟨Ao10, co10, eo10⟩ := Kd.R_slice HO217.out; subst eo10; have hnb11 := NB214_213.out; have hnc11 := NB213_214.out; have hcz12_0 : w9.cell? ⟨gb214, 0, none⟩ = some (.slice none 0 0) := (blk_cell BK214.out 0).trans rfl; have hfz12_0 := blk_frozen BK214.out 0; have hcz13_0 : w9.cell? ⟨gb213, 0, none⟩ = some (.slice none 0 0) := (blk_cell BK213.out 0).trans rfl; have hfz13_0 := blk_frozen BK213.out 0))
  refine bodyPost_ret (results_cell_row rfl _ _ gb213 35 #[.slice Ao10 t215.length co10] (0, 0) _ rfl (by (with_reducible repeat (first | refine blk_drewN ?_ _ | refine blk_drew ?_ | refine blk_alloc ?_ _)); refine blk_put (cs := #[.slice none 0 0]) ?_ 0 _ rfl; (with_reducible repeat (first | refine blk_drewN ?_ _ | refine blk_drew ?_ | refine blk_alloc ?_ _)); refine blk_far ?_ NB213_214.out _; (with_reducible repeat (first | refine blk_drewN ?_ _ | refine blk_drew ?_ | refine blk_alloc ?_ _)); exact BK213.out) Try.underlying35 rfl (by kernel_rfl)) rfl ?_
  exact ⟨_, by first | rfl | (simp [errW_none, errW_some] <;> rfl) | (simp [*, errW_none, errW_some] <;> rfl), by (with_reducible repeat (first | apply Kd.R_alloc | apply Kd.R_drewN | apply Kd.R_drew)); exact Kd.R_mono (Kd.R_far (p := ⟨gb213, 0, none⟩) (Kd.R_far (p := ⟨gb214, 0, none⟩) (Kd.R_types (Kd.R_types HO217.out BK214.out (by decide)) BK213.out (by decide)) (fun _ hk => hk.1.2) (.slice Ao10 t215.length co10)) (fun _ hk => hk.2) (.slice Ao10 t215.length co10)) (fun _ hk => trivial), by repeat (first | (with_reducible first | exact HB.out | apply below_alloc | apply pw_below_drewN | apply below_drew1 | refine below_set ?_ GE212.out | refine below_set ?_ GE213.out | refine below_set ?_ GE214.out) | exact HB.out)⟩
end Go.Proofs.Ytnhhkjodmcepmaa.L
end
