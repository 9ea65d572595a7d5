/- Laws about the given program: the law FnExactFromLayers answers true for every input that its row lets in; no condition is added to the given statement. Contracts of the Go functions that it reaches, and the plain proof over lists. -/
import Derived.Below
import Derived.ChangeOld
import Derived.Laws.BitsLemmas
import Derived.Lib.SmallJoins
import Derived.OpenShut
import Derived.ProofKit
import Derived.ShutString
import Derived.SizedLaws
import Derived.Test.YtioibkdjcmkcpaaRows
import Derived.WalkKit
import Derived.Test.YtioibkdjcmkcpaaW0
import Derived.Test.YtioibkdjcmkcpaaW1
import Derived.Test.YtioibkdjcmkcpaaKFnExactFromLayers0
import Derived.Test.YtioibkdjcmkcpaaKFnExactFromLayers1
import Derived.Test.YtioibkdjcmkcpaaKFnExactFromLayers2
import Derived.Test.YtioibkdjcmkcpaaKFnExactFromLayers3
section
namespace Go.Proofs.Ytioibkdjcmkcpaa.L
open Go.RowKit Go.Proofs.YtioibkdjcmkcpaaW.PrintWords Go.Proofs.YtioibkdjcmkcpaaW.PrintLast
def laws_FnExactFromLayers.Pure2 : Prop := ∀ (l0 : List Int) (l1 : List Int), l0.length ≤ maxLen → (∀ x ∈ l0, (Lit.int .i64 x).wf = true) → l1.length ≤ maxLen → (∀ x ∈ l1, (Lit.int .i64 x).wf = true) → ∃ k, laws_FnExactFromLayers.f k l0 l1 = some true
end Go.Proofs.Ytioibkdjcmkcpaa.L
end
section
namespace Go.Proofs.Ytioibkdjcmkcpaa.L
open Go.RowKit Go.Proofs.YtioibkdjcmkcpaaW.PrintWords Go.Proofs.YtioibkdjcmkcpaaW.PrintLast Go.Proofs.YtioibkdjcmkcpaaW.PrintMore
attribute [local go_sem] max2_int min2_int max_two min_two max_three min_three max_four min_four
set_option linter.unusedVariables false
set_option linter.unusedSimpArgs false
def spec_tgIn.f (k : Nat) (l0_0 : List Int) (a1 : Int) : Option (Bool) := (spec_poGood.f k l0_0).bind fun t274 => (if t274 = true then ((spec_poSet.f l0_0 a1).bind fun t275 => (if t275 = true then ((spec_poIdeal.f k l0_0 a1).bind fun t276 => (some t276)) else (some false))) else (some false))
theorem spec_tgIn.mono : ∀ a0 a1 k, LeO (spec_tgIn.f k a0 a1) (spec_tgIn.f (k + 1) a0 a1) := by
  intro a0 a1 k
  unfold spec_tgIn.f
  repeat' first
      | (with_reducible exact spec_poGood.mono _ _)
      | (with_reducible exact spec_poIdeal.mono _ _ _)
      | (with_reducible exact LeO.refl _)
      | (with_reducible exact LeO.none _)
      | (with_reducible refine LeO.ite ?_ ?_)
      | (with_reducible refine LeO.bind ?_ (fun _ => ?_))
      | exact spec_poGood.mono _ _
      | exact spec_poIdeal.mono _ _ _
      | exact LeO.none _
      | refine LeO.ite ?_ ?_
      | refine LeO.bind ?_ (fun _ => ?_)
set_option maxHeartbeats 8000000 in
set_option maxRecDepth 100000 in
theorem spec_tgIn.calls (k : Nat) (A0_0 : Option Addr) (c0_0 : Nat) (l0_0 : List Int) (a1 : Int) (r : Bool) (w : World) (hr0_0 : Kd.C (Kd.int .i64) w A0_0 l0_0.length l0_0) (hc0_0 : l0_0.length ≤ c0_0) (h : spec_tgIn.f k l0_0 a1 = some r) :
    Calls Try.prog 71 #[.agg #[.slice A0_0 l0_0.length c0_0], .int .i64 a1] w fun e w' => e = .returned (.bool r) ∧ Below w.heap.size w w' := by
  have hu28 := Try.underlying28
  have HR0_0 := Aside0.mk hr0_0
  have HC0_0 := Aside0.mk hc0_0
  clear hr0_0 hc0_0
  have HB := Aside0.mk (Below.refl w.heap.size w)
  have H : ((spec_poGood.f k l0_0).bind fun t274 => (if t274 = true then ((spec_poSet.f l0_0 a1).bind fun t275 => (if t275 = true then ((spec_poIdeal.f k l0_0 a1).bind fun t276 => (some t276)) else (some false))) else (some false))) = some r := h
  clear h
  replace H := Option.bind_eq_some_iff.mp H
  obtain ⟨t274, A30, H⟩ := H
  replace H : (if t274 = true then ((spec_poSet.f l0_0 a1).bind fun t275 => (if t275 = true then ((spec_poIdeal.f k l0_0 a1).bind fun t276 => (some t276)) else (some false))) else (some false)) = some r := H
  have A3 := Aside0.mk A30
  clear A30
  by_cases c4 : t274 = true
  · subst c4
    have H1 : ((spec_poSet.f l0_0 a1).bind fun t275 => (if t275 = true then ((spec_poIdeal.f k l0_0 a1).bind fun t276 => (some t276)) else (some false))) = some r := by rw [if_pos rfl] at H; exact H
    clear H
    have H := H1
    clear H1
    replace H := Option.bind_eq_some_iff.mp H
    obtain ⟨t275, A50, H⟩ := H
    replace H : (if t275 = true then ((spec_poIdeal.f k l0_0 a1).bind fun t276 => (some t276)) else (some false)) = some r := H
    have A5 := Aside0.mk A50
    clear A50
    by_cases c6 : t275 = true
    · subst c6
      have H1 : ((spec_poIdeal.f k l0_0 a1).bind fun t276 => (some t276)) = some r := by rw [if_pos rfl] at H; exact H
      clear H
      have H := H1
      clear H1
      replace H := Option.bind_eq_some_iff.mp H
      obtain ⟨t276, A70, H⟩ := H
      replace H : (some t276) = some r := H
      have A7 := Aside0.mk A70
      clear A70
      obtain rfl := Option.some.inj H
      go_enter Try.func71, Try.ntmps71
      go_wp2_with (first | ((with_reducible refine gate_dst (N := 2) rfl ?_); refine box_event ?hg (N := 2) ?hd (cs := #[.slice A0_0 l0_0.length c0_0]) (t := 28) ?hr ?_; (case hd => rfl); (case hg => rfl); (case hr => first | (go_simp; done) | (go_simp; rfl)); intro gb273 hg w8 hbox hb; have n0_ := Aside0.mk (below_step (by repeat (first | (with_reducible first | exact HB.out | apply below_alloc | apply pw_below_drewN | apply below_drew1) | exact HB.out)) hb); have n1_ := Aside0.mk (hbox); have n2_ := Aside0.mk ((by rw [hg]; exact (below_size (by repeat (first | (with_reducible first | exact HB.out | apply below_alloc | apply pw_below_drewN | apply below_drew1) | exact HB.out))) : w.heap.size ≤ gb273)); have n3_ := Aside0.mk ((by rw [hg]; exact (below_size (by repeat (first | (with_reducible first | exact HB.out | apply below_alloc | apply pw_below_drewN | apply below_drew1) | exact HB.out))) : w.heap.size ≤ gb273)); clear HB; have HB := n0_; have BK273 := n1_; have GW273 := n2_; have GE273 := n3_; clear n0_ n1_ n2_ n3_; clear hb hbox hg; have hcz9_0 : w8.cell? ⟨gb273, 0, none⟩ = some (.slice A0_0 l0_0.length c0_0) := (blk_cell BK273.out 0).trans rfl; have hfz9_0 := blk_frozen BK273.out 0) | ((with_reducible refine gate_callee (f := 48) rfl ?_); refine goesL_ (some 6) rfl rfl Try.func48 (by kernel_rfl) rfl #[.agg #[.slice A0_0 l0_0.length c0_0]] rfl (by (try simp only [List.map_toArray, List.map_cons, List.map_nil]); first | done | rfl | (simp only [List.length_drop, List.length_take]; rfl)) ?_; (with_reducible refine (spec_poGood.calls k _ _ l0_0 true _ ?side1 ?side2 A3.out).mono ?_); (case side1 => repeat (first | exact (Kd.C_below HR0_0.out HB.out) | (with_reducible refine Kd.C_alloc ?_ _) | (with_reducible refine Kd.C_drewN ?_ _) | (with_reducible refine Kd.C_drew ?_))); (case side2 => exact HC0_0.out); rintro e w10 ⟨rfl, hb⟩; refine ⟨_, rfl, ?_⟩; have n0_ := Aside0.mk (blk_below (g := gb273) (o := .cells #[.slice A0_0 l0_0.length c0_0] 28 (0, 0)) (by (with_reducible repeat (first | refine blk_drewN ?_ _ | refine blk_drew ?_ | refine blk_alloc ?_ _)); exact BK273.out) hb); have n1_ := Aside0.mk (below_step (by repeat (first | (with_reducible first | exact HB.out | apply below_alloc | apply pw_below_drewN | apply below_drew1 | refine below_set ?_ GE273.out) | exact HB.out)) hb); clear BK273; clear HB; have BK273 := n0_; have HB := n1_; clear n0_ n1_; (try clear hb); (try clear hb2); (try clear hk); (try clear hi); have hcz11_0 : w10.cell? ⟨gb273, 0, none⟩ = some (.slice A0_0 l0_0.length c0_0) := (blk_cell BK273.out 0).trans rfl; have hfz11_0 := blk_frozen BK273.out 0) | (go_at_call 75; (with_reducible refine (spec_poSet.calls _ _ l0_0 a1 true _ ?side1 ?side2 A5.out).mono ?_); (case side1 => repeat (first | exact (Kd.C_below HR0_0.out HB.out) | (with_reducible refine Kd.C_alloc ?_ _) | (with_reducible refine Kd.C_drewN ?_ _) | (with_reducible refine Kd.C_drew ?_))); (case side2 => exact HC0_0.out); rintro e w12 ⟨rfl, hb⟩; have n0_ := Aside0.mk (blk_below (g := gb273) (o := .cells #[.slice A0_0 l0_0.length c0_0] 28 (0, 0)) (by (with_reducible repeat (first | refine blk_drewN ?_ _ | refine blk_drew ?_ | refine blk_alloc ?_ _)); exact BK273.out) hb); have n1_ := Aside0.mk (below_step (by repeat (first | (with_reducible first | exact HB.out | apply below_alloc | apply pw_below_drewN | apply below_drew1 | refine below_set ?_ GE273.out) | exact HB.out)) hb); clear BK273; clear HB; have BK273 := n0_; have HB := n1_; clear n0_ n1_; (try clear hb); (try clear hb2); (try clear hk); (try clear hi); have hcz13_0 : w12.cell? ⟨gb273, 0, none⟩ = some (.slice A0_0 l0_0.length c0_0) := (blk_cell BK273.out 0).trans rfl; have hfz13_0 := blk_frozen BK273.out 0) | (go_at_call 76; (with_reducible refine (spec_poIdeal.calls k _ _ l0_0 a1 t276 _ ?side1 ?side2 A7.out).mono ?_); (case side1 => repeat (first | exact (Kd.C_below HR0_0.out HB.out) | (with_reducible refine Kd.C_alloc ?_ _) | (with_reducible refine Kd.C_drewN ?_ _) | (with_reducible refine Kd.C_drew ?_))); (case side2 => exact HC0_0.out); rintro e w14 ⟨rfl, hb⟩; have n0_ := Aside0.mk (blk_below (g := gb273) (o := .cells #[.slice A0_0 l0_0.length c0_0] 28 (0, 0)) (by (with_reducible repeat (first | refine blk_drewN ?_ _ | refine blk_drew ?_ | refine blk_alloc ?_ _)); exact BK273.out) hb); have n1_ := Aside0.mk (below_step (by repeat (first | (with_reducible first | exact HB.out | apply below_alloc | apply pw_below_drewN | apply below_drew1 | refine below_set ?_ GE273.out) | exact HB.out)) hb); clear BK273; clear HB; have BK273 := n0_; have HB := n1_; clear n0_ n1_; (try clear hb); (try clear hb2); (try clear hk); (try clear hi)))
      go_ret
      exact ⟨by first | rfl | (simp [errW_none, errW_some] <;> rfl) | (simp [*, errW_none, errW_some] <;> rfl), by repeat (first | (with_reducible first | exact HB.out | apply below_alloc | apply pw_below_drewN | apply below_drew1 | refine below_set ?_ GE273.out) | exact HB.out)⟩
    · replace c6 := Bool.eq_false_iff.mpr c6
      subst c6
      have H1 : (some false) = some r := by rw [if_neg (show ¬ (false = true) by decide)] at H; exact H
      clear H
      have H := H1
      clear H1
      obtain rfl := Option.some.inj H
      go_enter Try.func71, Try.ntmps71
      go_wp2_with (first | ((with_reducible refine gate_dst (N := 2) rfl ?_); refine box_event ?hg (N := 2) ?hd (cs := #[.slice A0_0 l0_0.length c0_0]) (t := 28) ?hr ?_; (case hd => rfl); (case hg => rfl); (case hr => first | (go_simp; done) | (go_simp; rfl)); intro gb273 hg w15 hbox hb; have n0_ := Aside0.mk (below_step (by repeat (first | (with_reducible first | exact HB.out | apply below_alloc | apply pw_below_drewN | apply below_drew1) | exact HB.out)) hb); have n1_ := Aside0.mk (hbox); have n2_ := Aside0.mk ((by rw [hg]; exact (below_size (by repeat (first | (with_reducible first | exact HB.out | apply below_alloc | apply pw_below_drewN | apply below_drew1) | exact HB.out))) : w.heap.size ≤ gb273)); have n3_ := Aside0.mk ((by rw [hg]; exact (below_size (by repeat (first | (with_reducible first | exact HB.out | apply below_alloc | apply pw_below_drewN | apply below_drew1) | exact HB.out))) : w.heap.size ≤ gb273)); clear HB; have HB := n0_; have BK273 := n1_; have GW273 := n2_; have GE273 := n3_; clear n0_ n1_ n2_ n3_; clear hb hbox hg; have hcz16_0 : w15.cell? ⟨gb273, 0, none⟩ = some (.slice A0_0 l0_0.length c0_0) := (blk_cell BK273.out 0).trans rfl; have hfz16_0 := blk_frozen BK273.out 0) | ((with_reducible refine gate_callee (f := 48) rfl ?_); refine goesL_ (some 6) rfl rfl Try.func48 (by kernel_rfl) rfl #[.agg #[.slice A0_0 l0_0.length c0_0]] rfl (by (try simp only [List.map_toArray, List.map_cons, List.map_nil]); first | done | rfl | (simp only [List.length_drop, List.length_take]; rfl)) ?_; (with_reducible refine (spec_poGood.calls k _ _ l0_0 true _ ?side1 ?side2 A3.out).mono ?_); (case side1 => repeat (first | exact (Kd.C_below HR0_0.out HB.out) | (with_reducible refine Kd.C_alloc ?_ _) | (with_reducible refine Kd.C_drewN ?_ _) | (with_reducible refine Kd.C_drew ?_))); (case side2 => exact HC0_0.out); rintro e w17 ⟨rfl, hb⟩; refine ⟨_, rfl, ?_⟩; have n0_ := Aside0.mk (blk_below (g := gb273) (o := .cells #[.slice A0_0 l0_0.length c0_0] 28 (0, 0)) (by (with_reducible repeat (first | refine blk_drewN ?_ _ | refine blk_drew ?_ | refine blk_alloc ?_ _)); exact BK273.out) hb); have n1_ := Aside0.mk (below_step (by repeat (first | (with_reducible first | exact HB.out | apply below_alloc | apply pw_below_drewN | apply below_drew1 | refine below_set ?_ GE273.out) | exact HB.out)) hb); clear BK273; clear HB; have BK273 := n0_; have HB := n1_; clear n0_ n1_; (try clear hb); (try clear hb2); (try clear hk); (try clear hi); have hcz18_0 : w17.cell? ⟨gb273, 0, none⟩ = some (.slice A0_0 l0_0.length c0_0) := (blk_cell BK273.out 0).trans rfl; have hfz18_0 := blk_frozen BK273.out 0) | (go_at_call 75; (with_reducible refine (spec_poSet.calls _ _ l0_0 a1 false _ ?side1 ?side2 A5.out).mono ?_); (case side1 => repeat (first | exact (Kd.C_below HR0_0.out HB.out) | (with_reducible refine Kd.C_alloc ?_ _) | (with_reducible refine Kd.C_drewN ?_ _) | (with_reducible refine Kd.C_drew ?_))); (case side2 => exact HC0_0.out); rintro e w19 ⟨rfl, hb⟩; have n0_ := Aside0.mk (blk_below (g := gb273) (o := .cells #[.slice A0_0 l0_0.length c0_0] 28 (0, 0)) (by (with_reducible repeat (first | refine blk_drewN ?_ _ | refine blk_drew ?_ | refine blk_alloc ?_ _)); exact BK273.out) hb); have n1_ := Aside0.mk (below_step (by repeat (first | (with_reducible first | exact HB.out | apply below_alloc | apply pw_below_drewN | apply below_drew1 | refine below_set ?_ GE273.out) | exact HB.out)) hb); clear BK273; clear HB; have BK273 := n0_; have HB := n1_; clear n0_ n1_; (try clear hb); (try clear hb2); (try clear hk); (try clear hi)))
      go_ret
      exact ⟨by first | rfl | (simp [errW_none, errW_some] <;> rfl) | (simp [*, errW_none, errW_some] <;> rfl), by repeat (first | (with_reducible first | exact HB.out | apply below_alloc | apply pw_below_drewN | apply below_drew1 | refine below_set ?_ GE273.out) | exact HB.out)⟩
  · replace c4 := Bool.eq_false_iff.mpr c4
    subst c4
    have H1 : (some false) = some r := by rw [if_neg (show ¬ (false = true) by decide)] at H; exact H
    clear H
    have H := H1
    clear H1
    obtain rfl := Option.some.inj H
    go_enter Try.func71, Try.ntmps71
    go_wp2_with (first | ((with_reducible refine gate_dst (N := 2) rfl ?_); refine box_event ?hg (N := 2) ?hd (cs := #[.slice A0_0 l0_0.length c0_0]) (t := 28) ?hr ?_; (case hd => rfl); (case hg => rfl); (case hr => first | (go_simp; done) | (go_simp; rfl)); intro gb273 hg w20 hbox hb; have n0_ := Aside0.mk (below_step (by repeat (first | (with_reducible first | exact HB.out | apply below_alloc | apply pw_below_drewN | apply below_drew1) | exact HB.out)) hb); have n1_ := Aside0.mk (hbox); have n2_ := Aside0.mk ((by rw [hg]; exact (below_size (by repeat (first | (with_reducible first | exact HB.out | apply below_alloc | apply pw_below_drewN | apply below_drew1) | exact HB.out))) : w.heap.size ≤ gb273)); have n3_ := Aside0.mk ((by rw [hg]; exact (below_size (by repeat (first | (with_reducible first | exact HB.out | apply below_alloc | apply pw_below_drewN | apply below_drew1) | exact HB.out))) : w.heap.size ≤ gb273)); clear HB; have HB := n0_; have BK273 := n1_; have GW273 := n2_; have GE273 := n3_; clear n0_ n1_ n2_ n3_; clear hb hbox hg; have hcz21_0 : w20.cell? ⟨gb273, 0, none⟩ = some (.slice A0_0 l0_0.length c0_0) := (blk_cell BK273.out 0).trans rfl; have hfz21_0 := blk_frozen BK273.out 0) | ((with_reducible refine gate_callee (f := 48) rfl ?_); refine goesL_ (some 6) rfl rfl Try.func48 (by kernel_rfl) rfl #[.agg #[.slice A0_0 l0_0.length c0_0]] rfl (by (try simp only [List.map_toArray, List.map_cons, List.map_nil]); first | done | rfl | (simp only [List.length_drop, List.length_take]; rfl)) ?_; (with_reducible refine (spec_poGood.calls k _ _ l0_0 false _ ?side1 ?side2 A3.out).mono ?_); (case side1 => repeat (first | exact (Kd.C_below HR0_0.out HB.out) | (with_reducible refine Kd.C_alloc ?_ _) | (with_reducible refine Kd.C_drewN ?_ _) | (with_reducible refine Kd.C_drew ?_))); (case side2 => exact HC0_0.out); rintro e w22 ⟨rfl, hb⟩; refine ⟨_, rfl, ?_⟩; have n0_ := Aside0.mk (blk_below (g := gb273) (o := .cells #[.slice A0_0 l0_0.length c0_0] 28 (0, 0)) (by (with_reducible repeat (first | refine blk_drewN ?_ _ | refine blk_drew ?_ | refine blk_alloc ?_ _)); exact BK273.out) hb); have n1_ := Aside0.mk (below_step (by repeat (first | (with_reducible first | exact HB.out | apply below_alloc | apply pw_below_drewN | apply below_drew1 | refine below_set ?_ GE273.out) | exact HB.out)) hb); clear BK273; clear HB; have BK273 := n0_; have HB := n1_; clear n0_ n1_; (try clear hb); (try clear hb2); (try clear hk); (try clear hi)))
    go_ret
    exact ⟨by first | rfl | (simp [errW_none, errW_some] <;> rfl) | (simp [*, errW_none, errW_some] <;> rfl), by repeat (first | (with_reducible first | exact HB.out | apply below_alloc | apply pw_below_drewN | apply below_drew1 | refine below_set ?_ GE273.out) | exact HB.out)⟩
end Go.Proofs.Ytioibkdjcmkcpaa.L
end
section
namespace Go.Proofs.Ytioibkdjcmkcpaa.M
open Go.RowKit Go.Proofs.YtioibkdjcmkcpaaW.PrintWords Go.Proofs.YtioibkdjcmkcpaaW.PrintLast Go.Proofs.YtioibkdjcmkcpaaW.PrintMore
theorem wrap_id {x : Int} (h0 : -9223372036854775808 ≤ x) (h1 : x ≤ 9223372036854775807) : wrap64 x = x := by unfold wrap64; omega
theorem wrap_succ {i : Nat} (h : i < 9223372036854775807) : wrap64 ((i : Int) + 1) = ((i + 1 : Nat) : Int) := by unfold wrap64; omega
theorem rd_get {l : List Int} {i : Nat} (h : i < l.length) : rd l (i : Int) = l[i] := by simp [rd, List.getD_eq_getElem?_getD, h]
theorem rd_nat {p : List Nat} {i : Nat} (h : i < p.length) : rd (p.map Int.ofNat) (i : Int) = ((p[i] : Nat) : Int) := by
  rw [rd_get (by simpa using h)]; simp
theorem ev_some {α : Type} {g : Nat → Option α} {r : α} (h : ∀ k, g k = some r) : Ev g r := ⟨0, fun k _ => h k⟩
theorem ev_det {α : Type} {g : Nat → Option α} {r r' : α} (h : Ev g r) (h' : Ev g r') : r = r' := by
  obtain ⟨K, h⟩ := h; obtain ⟨K', h'⟩ := h'
  have a := h (max K K') (by omega); have b := h' (max K K') (by omega)
  exact Option.some.inj (a.symm.trans b)
theorem ev_ite {α : Type} {c : Prop} [Decidable c] {f g : Nat → Option α} {r : α} (h1 : c → Ev f r) (h2 : ¬ c → Ev g r) : Ev (fun k => if c then f k else g k) r := by
  by_cases h : c
  · obtain ⟨K, hK⟩ := h1 h; exact ⟨K, fun k hk => by simp only [if_pos h]; exact hK k hk⟩
  · obtain ⟨K, hK⟩ := h2 h; exact ⟨K, fun k hk => by simp only [if_neg h]; exact hK k hk⟩
theorem ev_pos {α : Type} {c : Prop} [Decidable c] {f g : Nat → Option α} {r : α} (h : c) (h1 : Ev f r) : Ev (fun k => if c then f k else g k) r := ev_ite (fun _ => h1) (fun h2 => absurd h h2)
theorem ev_neg {α : Type} {c : Prop} [Decidable c] {f g : Nat → Option α} {r : α} (h : ¬ c) (h1 : Ev g r) : Ev (fun k => if c then f k else g k) r := ev_ite (fun h2 => absurd h2 h) (fun _ => h1)
theorem ev_call {α β : Type} {x : Option α} {a : α} {f : Nat → α → Option β} {r : β} (h : x = some a) (k : Ev (fun n => f n a) r) : Ev (fun n => x.bind (f n)) r := by subst h; simpa using k
def inB (x lo hi : Int) : Bool := decide (lo ≤ x) && decide (x ≤ hi)
theorem inB_iff {x lo hi : Int} : inB x lo hi = true ↔ lo ≤ x ∧ x ≤ hi := by simp [inB]
end Go.Proofs.Ytioibkdjcmkcpaa.M
end
section
namespace Go.Proofs.Ytioibkdjcmkcpaa.M
open Go.RowKit Go.Proofs.YtioibkdjcmkcpaaW.PrintWords Go.Proofs.YtioibkdjcmkcpaaW.PrintLast Go.Proofs.YtioibkdjcmkcpaaW.PrintMore
def sd (a b : Nat) : Nat := a ^^^ (a &&& b)
theorem sd_bit (a b i : Nat) : (sd a b).testBit i = (a.testBit i && !b.testBit i) := by
  unfold sd; rw [Nat.testBit_xor, Nat.testBit_and]; cases a.testBit i <;> cases b.testBit i <;> rfl
theorem sd_zero {a b : Nat} : sd a b = 0 ↔ ∀ i, a.testBit i = true → b.testBit i = true := by
  constructor
  · intro h i ha
    have := sd_bit a b i
    rw [h, Nat.zero_testBit, ha] at this
    cases hb : b.testBit i
    · rw [hb] at this; simp at this
    · rfl
  · intro h
    apply Nat.eq_of_testBit_eq
    intro i
    rw [sd_bit, Nat.zero_testBit]
    cases ha : a.testBit i
    · rfl
    · rw [h i ha]; rfl
theorem sd_le (a b : Nat) : sd a b ≤ a := by
  have e : sd a b = sd a b &&& a := by
    apply Nat.eq_of_testBit_eq
    intro i
    rw [Nat.testBit_and, sd_bit]
    cases a.testBit i <;> cases b.testBit i <;> rfl
  rw [e]; exact Nat.and_le_right
theorem sd_lt {a : Nat} (b : Nat) {n : Nat} (h : a < 2 ^ n) : sd a b < 2 ^ n := Nat.lt_of_le_of_lt (sd_le a b) h
theorem wrap_nat {x : Nat} (h : x < 2 ^ 63) : IntKind.i64.wrap (x : Int) = (x : Int) := by
  rw [IntKind.wrap_i64]
  have : (x : Int) < 9223372036854775808 := by
    have h2 : (2 : Nat) ^ 63 = 9223372036854775808 := by decide
    omega
  omega
theorem ofInt_nat {a : Nat} (h : a < 2 ^ 63) : (BitVec.ofInt IntKind.i64.bits (a : Int)).toNat = a := by
  have e : IntKind.i64.bits = 64 := rfl
  rw [e, BitVec.ofInt_natCast, BitVec.toNat_ofNat]
  exact Nat.mod_eq_of_lt (Nat.lt_of_lt_of_le h (by decide))
theorem bits_or {a b : Nat} (ha : a < 2 ^ 63) (hb : b < 2 ^ 63) : Go.bits .or .i64 (a : Int) (b : Int) = ((a ||| b : Nat) : Int) := by
  simp only [Go.bits, BitVec.toNat_or, ofInt_nat ha, ofInt_nat hb]
  exact wrap_nat (Nat.or_lt_two_pow ha hb)
theorem bits_and {a b : Nat} (ha : a < 2 ^ 63) (hb : b < 2 ^ 63) : Go.bits .and .i64 (a : Int) (b : Int) = ((a &&& b : Nat) : Int) := by
  simp only [Go.bits, BitVec.toNat_and, ofInt_nat ha, ofInt_nat hb]
  exact wrap_nat (Nat.and_lt_two_pow _ hb)
theorem bits_xor {a b : Nat} (ha : a < 2 ^ 63) (hb : b < 2 ^ 63) : Go.bits .xor .i64 (a : Int) (b : Int) = ((a ^^^ b : Nat) : Int) := by
  simp only [Go.bits, BitVec.toNat_xor, ofInt_nat ha, ofInt_nat hb]
  exact wrap_nat (Nat.xor_lt_two_pow ha hb)
theorem bits_andNot {a b : Nat} (ha : a < 2 ^ 63) (hb : b < 2 ^ 63) : Go.bits .andNot .i64 (a : Int) (b : Int) = ((sd a b : Nat) : Int) := by
  have e : (BitVec.ofInt IntKind.i64.bits (a : Int) &&& ~~~(BitVec.ofInt IntKind.i64.bits (b : Int))).toNat = sd a b := by
    apply Nat.eq_of_testBit_eq
    intro i
    rw [BitVec.toNat_and, Nat.testBit_and, ofInt_nat ha, sd_bit]
    cases hai : a.testBit i
    · rfl
    · have hi : i < 64 := by
        apply Nat.lt_of_not_le; intro h
        have : a < 2 ^ i := Nat.lt_of_lt_of_le ha (Nat.pow_le_pow_right (by decide) (by omega))
        rw [Nat.testBit_lt_two_pow this] at hai; cases hai
      have e2 : (~~~(BitVec.ofInt IntKind.i64.bits (b : Int))).toNat.testBit i = (~~~(BitVec.ofInt IntKind.i64.bits (b : Int))).getLsbD i := rfl
      have e3 : (BitVec.ofInt IntKind.i64.bits (b : Int)).getLsbD i = b.testBit i := by
        show (BitVec.ofInt IntKind.i64.bits (b : Int)).toNat.testBit i = _
        rw [ofInt_nat hb]
      rw [e2, BitVec.getLsbD_not, e3]
      have : decide (i < IntKind.i64.bits) = true := decide_eq_true hi
      rw [this, Bool.true_and]
  simp only [Go.bits]
  rw [e]
  exact wrap_nat (sd_lt b ha)
theorem shl_one {i : Nat} (h : i < 63) : shl .i64 1 (i : Int) = ((2 ^ i : Nat) : Int) := by
  unfold shl
  have e : min (i : Int).toNat IntKind.i64.bits = i := by
    have : IntKind.i64.bits = 64 := rfl
    rw [this, Int.toNat_natCast]; omega
  rw [e, Int.one_mul]
  have : ((2 : Int) ^ i) = ((2 ^ i : Nat) : Int) := by simp
  rw [this]
  exact wrap_nat (Nat.pow_lt_pow_right (by decide) h)
theorem shl_one' {i : Nat} (h : i < 62) : wrap64 (shl .i64 1 (i : Int) - 1) = ((2 ^ i - 1 : Nat) : Int) := by
  rw [shl_one (by omega)]
  have h1 : 0 < 2 ^ i := Nat.two_pow_pos i
  have h2 : 2 ^ i ≤ 2 ^ 62 := Nat.pow_le_pow_right (by decide) (by omega)
  have h3 : (2 : Nat) ^ 62 = 4611686018427387904 := by decide
  rw [wrap_id (by omega) (by omega)]; omega
theorem shr_nat {a i : Nat} (h : i ≤ 64) : shr .i64 (a : Int) (i : Int) = ((a / 2 ^ i : Nat) : Int) := by
  unfold shr
  have e : min (i : Int).toNat IntKind.i64.bits = i := by
    have : IntKind.i64.bits = 64 := rfl
    rw [this, Int.toNat_natCast]; omega
  rw [e]; simp
theorem bit_mod {a i : Nat} (h : i ≤ 64) : (Int.tmod (shr .i64 (a : Int) (i : Int)) 2 == 1) = a.testBit i := by
  rw [shr_nat h]
  have : Int.tmod ((a / 2 ^ i : Nat) : Int) 2 = ((a / 2 ^ i % 2 : Nat) : Int) := by
    rw [show (2 : Int) = ((2 : Nat) : Int) from rfl, Int.ofNat_tmod]
  rw [this, Nat.testBit_eq_decide_div_mod_eq, Bool.eq_iff_iff, beq_iff_eq, decide_eq_true_eq]
  omega
theorem bit_mod' {a i : Nat} (h : i ≤ 64) : (Int.tmod (shr .i64 (a : Int) (i : Int)) 2 = 1) ↔ a.testBit i = true := by
  rw [← bit_mod h]; simp
theorem bit_and {a i : Nat} (ha : a < 2 ^ 63) (h : i ≤ 64) : (Go.bits .and .i64 (shr .i64 (a : Int) (i : Int)) 1 == 1) = a.testBit i := by
  rw [shr_nat h, show (1 : Int) = ((1 : Nat) : Int) from rfl, bits_and (Nat.lt_of_le_of_lt (Nat.div_le_self _ _) ha) (by decide), Nat.and_one_is_mod, Nat.testBit_eq_decide_div_mod_eq, Bool.eq_iff_iff, beq_iff_eq, decide_eq_true_eq]
  omega
theorem bit_lt {a i n : Nat} (h : a < 2 ^ n) (hi : a.testBit i = true) : i < n := by
  apply Nat.lt_of_not_le; intro h2
  rw [Nat.testBit_lt_two_pow (Nat.lt_of_lt_of_le h (Nat.pow_le_pow_right (by decide) h2))] at hi; cases hi
theorem lt63 {a n : Nat} (h : a < 2 ^ n) (hn : n ≤ 63) : a < 2 ^ 63 := Nat.lt_of_lt_of_le h (Nat.pow_le_pow_right (by decide) hn)
end Go.Proofs.Ytioibkdjcmkcpaa.M
end
section
namespace Go.Proofs.Ytioibkdjcmkcpaa.M
set_option linter.unusedVariables false
open Go.RowKit Go.Proofs.YtioibkdjcmkcpaaW.PrintWords Go.Proofs.YtioibkdjcmkcpaaW.PrintLast Go.Proofs.YtioibkdjcmkcpaaW.PrintMore
def toI (p : List Nat) : List Int := p.map fun (x : Nat) => (x : Int)
@[simp] theorem toI_len (p : List Nat) : (toI p).length = p.length := by simp [toI]
@[simp] theorem toI_nil : toI [] = [] := rfl
theorem toI_app (p q : List Nat) : toI (p ++ q) = toI p ++ toI q := by simp [toI]
theorem toI_one (x : Nat) : toI [x] = [(x : Int)] := rfl
theorem toI_set (p : List Nat) (i x : Nat) : (toI p).set i (x : Int) = toI (p.set i x) := by simp [toI, List.map_set]
theorem toI_rep (n x : Nat) : List.replicate n (x : Int) = toI (List.replicate n x) := by simp [toI]
theorem rd_toI (p : List Nat) (i : Nat) : rd (toI p) (i : Int) = ((p.getD i 0 : Nat) : Int) := by
  simp only [rd, toI, Int.toNat_natCast, List.getD_eq_getElem?_getD, List.getElem?_map]
  cases p[i]? <;> simp
theorem toI_inj {p q : List Nat} (h : toI p = toI q) : p = q := by
  exact (List.map_inj_right (fun a b h => Int.ofNat.inj h)).mp h
def less (p : List Nat) (i : Nat) : Nat := p.getD i 0
theorem less_get {p : List Nat} {i : Nat} (h : i < p.length) : p[i] = less p i := by simp [less, List.getD_eq_getElem?_getD, h]
theorem less_out {p : List Nat} {i : Nat} (h : p.length ≤ i) : less p i = 0 := by simp [less, List.getD_eq_getElem?_getD, h]
theorem rd_less (p : List Nat) (i : Nat) : rd (toI p) (i : Int) = ((less p i : Nat) : Int) := rd_toI p i
structure Good (p : List Nat) : Prop where
  pos : 1 ≤ p.length
  le : p.length ≤ 10
  lt : ∀ i, i < p.length → less p i < 2 ^ i
  tr : ∀ i, i < p.length → ∀ j, (less p i).testBit j = true → ∀ m, (less p j).testBit m = true → (less p i).testBit m = true
theorem Good.bit {p : List Nat} (g : Good p) {i j : Nat} (h : (less p i).testBit j = true) : j < i ∧ i < p.length := by
  have hi : i < p.length := by
    apply Nat.lt_of_not_le; intro h2; rw [less_out h2, Nat.zero_testBit] at h; cases h
  exact ⟨bit_lt (g.lt i hi) h, hi⟩
theorem Good.lt10 {p : List Nat} (g : Good p) (i : Nat) : less p i < 2 ^ p.length := by
  by_cases hi : i < p.length
  · exact Nat.lt_of_lt_of_le (g.lt i hi) (Nat.pow_le_pow_right (by decide) (by omega))
  · rw [less_out (by omega)]; exact Nat.two_pow_pos _
theorem Good.lt63 {p : List Nat} (g : Good p) (i : Nat) : less p i < 2 ^ 63 := M.lt63 (g.lt10 i) (by have := g.le; omega)
theorem Good.tr' {p : List Nat} (g : Good p) {i j m : Nat} (h1 : (less p i).testBit j = true) (h2 : (less p j).testBit m = true) : (less p i).testBit m = true := g.tr i (g.bit h1).2 j h1 m h2
def okAt (l : List Int) (i : Nat) : Bool := inB (l.getD i 0) 0 ((2 ^ i - 1 : Nat) : Int) && (List.range i).all fun j => !((l.getD i 0).toNat.testBit j) || sd (l.getD j 0).toNat (l.getD i 0).toNat == 0
theorem okAt_def (l : List Int) (i : Nat) : okAt l i = (inB (l.getD i 0) 0 ((2 ^ i - 1 : Nat) : Int) && (List.range i).all fun j => !((l.getD i 0).toNat.testBit j) || sd (l.getD j 0).toNat (l.getD i 0).toNat == 0) := rfl
def goodB (l : List Int) : Bool := inB (l.length : Int) 1 10 && (List.range' 0 l.length).all (okAt l)
theorem okAt_nat {l : List Int} {i : Nat} (h : okAt l i = true) : ∃ a : Nat, l.getD i 0 = (a : Int) ∧ a < 2 ^ i := by
  simp only [okAt, Bool.and_eq_true, inB_iff] at h
  have := Nat.two_pow_pos i
  exact ⟨(l.getD i 0).toNat, by omega, by omega⟩
theorem goodB_of {l : List Int} (h : goodB l = true) : ∃ p, l = toI p ∧ Good p := by
  simp only [goodB, Bool.and_eq_true, inB_iff, List.all_eq_true, List.mem_range'_1] at h
  obtain ⟨⟨h1, h2⟩, h3⟩ := h
  have hn : ∀ i, i < l.length → okAt l i = true := fun i hi => h3 i (by omega)
  have e : l = toI (l.map Int.toNat) := by
    apply List.ext_getElem (by simp)
    intro i hi1 hi2
    obtain ⟨a, ha, _⟩ := okAt_nat (hn i hi1)
    have hg : l.getD i 0 = l[i] := by simp [List.getD_eq_getElem?_getD, hi1]
    simp only [toI, List.getElem_map]; omega
  refine ⟨l.map Int.toNat, e, ?_⟩
  have hl : ∀ i, less (l.map Int.toNat) i = (l.getD i 0).toNat := by
    intro i
    simp only [less, List.getD_eq_getElem?_getD, List.getElem?_map]
    cases l[i]? <;> simp
  refine ⟨by simp; omega, by simp; omega, fun i hi => ?_, fun i hi j hj m hm => ?_⟩
  · obtain ⟨a, ha, hb⟩ := okAt_nat (hn i (by simpa using hi))
    rw [hl, ha]; simpa using hb
  · have hi' : i < l.length := by simpa using hi
    have ho := hn i hi'
    obtain ⟨a, ha, hb⟩ := okAt_nat ho
    simp only [okAt, Bool.and_eq_true, List.all_eq_true, List.mem_range, Bool.or_eq_true, Bool.not_eq_true', beq_iff_eq] at ho
    rw [hl] at hj hm ⊢
    have hji : j < i := by rw [ha] at hj; exact bit_lt hb (by simpa using hj)
    rcases ho.2 j hji with hz | hz
    · rw [hj] at hz; cases hz
    · exact sd_zero.mp hz m hm
theorem goodB_toI {p : List Nat} (g : Good p) : goodB (toI p) = true := by
  simp only [goodB, Bool.and_eq_true, inB_iff, List.all_eq_true, List.mem_range'_1, toI_len]
  have hl : ∀ i, (toI p).getD i 0 = (less p i : Int) := fun i => by
    have := rd_less p i
    simpa [rd] using this
  have gp := g.pos
  have gl := g.le
  refine ⟨⟨by omega, by omega⟩, fun i hi => ?_⟩
  have hi' : i < p.length := by omega
  have h1 := g.lt i hi'
  simp only [okAt, Bool.and_eq_true, inB_iff, List.all_eq_true, List.mem_range, Bool.or_eq_true, Bool.not_eq_true', beq_iff_eq, hl, Int.toNat_natCast]
  refine ⟨⟨by omega, by omega⟩, fun j hj => ?_⟩
  cases hb : (less p i).testBit j
  · exact .inl rfl
  · exact .inr (sd_zero.mpr fun m hm => g.tr i hi' j hb m hm)
def items (m : Nat) : List Nat := (List.range 10).filter fun e => m.testBit e
theorem mem_items {m e : Nat} : e ∈ items m ↔ e < 10 ∧ m.testBit e = true := by simp [items]
theorem items_len (m : Nat) : (items m).length ≤ 10 := by
  have := List.length_filter_le (fun e => m.testBit e) (List.range 10)
  simpa [items] using this
def foldBits {α : Type} (n s : Nat) (f : α → Nat → α) (a : α) : α := (List.range n).foldl (fun a e => if s.testBit e = true then f a e else a) a
theorem foldl_items {α : Type} (s : Nat) (f : α → Nat → α) (a : α) : (items s).foldl f a = foldBits 10 s f a := by
  unfold items foldBits; rw [List.foldl_filter]
theorem foldl_none {α : Type} (s : Nat) (f : α → Nat → α) : ∀ (l : List Nat) (a : α), (∀ e ∈ l, s.testBit e = false) → l.foldl (fun a e => if s.testBit e = true then f a e else a) a = a
  | [], _, _ => rfl
  | x :: l, a, h => by
    rw [List.foldl_cons, if_neg (by rw [h x List.mem_cons_self]; simp)]
    exact foldl_none s f l a fun e he => h e (List.mem_cons_of_mem _ he)
theorem foldBits_le {α : Type} {n m s : Nat} (f : α → Nat → α) (a : α) (h : s < 2 ^ n) (hm : n ≤ m) : foldBits m s f a = foldBits n s f a := by
  unfold foldBits
  obtain ⟨d, rfl⟩ := Nat.exists_eq_add_of_le hm
  rw [List.range_add, List.foldl_append]
  apply foldl_none
  intro e he
  simp only [List.mem_map, List.mem_range] at he
  obtain ⟨x, _, rfl⟩ := he
  exact Nat.testBit_lt_two_pow (Nat.lt_of_lt_of_le h (Nat.pow_le_pow_right (by decide) (by omega)))
theorem foldl_items_n {α : Type} {n s : Nat} (f : α → Nat → α) (a : α) (h : s < 2 ^ n) (hn : n ≤ 10) : (items s).foldl f a = foldBits n s f a := by
  rw [foldl_items, foldBits_le f a h hn]
theorem foldBits_succ {α : Type} (n s : Nat) (f : α → Nat → α) (a : α) : foldBits (n + 1) s f a = if s.testBit n = true then f (foldBits n s f a) n else foldBits n s f a := by
  unfold foldBits; rw [List.range_succ, List.foldl_append]; rfl
theorem foldBits_inv {α : Type} (n s : Nat) (f : α → Nat → α) (a : α) (I : α → Prop) (h0 : I a) (h : ∀ a e, I a → e < n → s.testBit e = true → I (f a e)) : I (foldBits n s f a) := by
  induction n with
  | zero => exact h0
  | succ n ih =>
    have ih := ih fun a e ha he hs => h a e ha (by omega) hs
    rw [foldBits_succ]
    split
    · exact h _ _ ih (by omega) (by assumption)
    · exact ih
def full (p : List Nat) : Nat := 2 ^ p.length - 1
theorem full_lt (p : List Nat) : full p < 2 ^ p.length := by have := Nat.two_pow_pos p.length; unfold full; omega
theorem full_bit (p : List Nat) (i : Nat) : (full p).testBit i = decide (i < p.length) := by unfold full; rw [Nat.testBit_two_pow_sub_one]
def close (p : List Nat) (s : Nat) : Nat := foldBits p.length s (fun o e => o ||| less p e) s
theorem close_lt {p : List Nat} (g : Good p) {s : Nat} (h : s < 2 ^ p.length) : close p s < 2 ^ p.length :=
  foldBits_inv _ _ _ _ (· < 2 ^ p.length) h (fun a e ha _ _ => Nat.or_lt_two_pow ha (g.lt10 e))
theorem foldOr_bit (p : List Nat) (s a i : Nat) : ∀ n, (foldBits n s (fun o e => o ||| less p e) a).testBit i = true ↔ (a.testBit i = true ∨ ∃ e, e < n ∧ s.testBit e = true ∧ (less p e).testBit i = true)
  | 0 => by simp [foldBits]
  | n + 1 => by
    rw [foldBits_succ]
    have ih := foldOr_bit p s a i n
    split
    · rename_i hs
      rw [Nat.testBit_or, Bool.or_eq_true, ih]
      constructor
      · rintro ((h | ⟨e, h1, h2, h3⟩) | h)
        · exact .inl h
        · exact .inr ⟨e, by omega, h2, h3⟩
        · exact .inr ⟨n, by omega, hs, h⟩
      · rintro (h | ⟨e, h1, h2, h3⟩)
        · exact .inl (.inl h)
        · by_cases he : e = n
          · subst he; exact .inr h3
          · exact .inl (.inr ⟨e, by omega, h2, h3⟩)
    · rename_i hs
      rw [ih]
      constructor
      · rintro (h | ⟨e, h1, h2, h3⟩)
        · exact .inl h
        · exact .inr ⟨e, by omega, h2, h3⟩
      · rintro (h | ⟨e, h1, h2, h3⟩)
        · exact .inl h
        · by_cases he : e = n
          · subst he; exact absurd h2 hs
          · exact .inr ⟨e, by omega, h2, h3⟩
theorem close_bit {p : List Nat} {s i : Nat} (h : s < 2 ^ p.length) : (close p s).testBit i = true ↔ (s.testBit i = true ∨ ∃ e, s.testBit e = true ∧ (less p e).testBit i = true) := by
  unfold close; rw [foldOr_bit]
  constructor
  · rintro (h1 | ⟨e, _, h1⟩)
    · exact .inl h1
    · exact .inr ⟨e, h1⟩
  · rintro (h1 | ⟨e, h1⟩)
    · exact .inl h1
    · exact .inr ⟨e, bit_lt h h1.1, h1⟩
def IsId (p : List Nat) (s : Nat) : Prop := s < 2 ^ p.length ∧ ∀ e, s.testBit e = true → ∀ i, (less p e).testBit i = true → s.testBit i = true
def idealB (p : List Nat) (s : Nat) : Bool := (List.range' 0 p.length).all fun e => !(s.testBit e) || sd (less p e) s == 0
theorem idealB_iff {p : List Nat} {s : Nat} (h : s < 2 ^ p.length) : idealB p s = true ↔ IsId p s := by
  simp only [idealB, IsId, List.all_eq_true, List.mem_range'_1, Bool.or_eq_true, Bool.not_eq_true', beq_iff_eq, sd_zero]
  constructor
  · intro h1
    refine ⟨h, fun e he => ?_⟩
    rcases h1 e ⟨by omega, by have := bit_lt h he; omega⟩ with h2 | h2
    · rw [he] at h2; cases h2
    · exact h2
  · rintro ⟨_, h1⟩ e _
    cases he : s.testBit e
    · exact .inl rfl
    · exact .inr (h1 e he)
theorem close_eq_iff {p : List Nat} {s : Nat} (h : s < 2 ^ p.length) : close p s = s ↔ IsId p s := by
  constructor
  · intro hc
    refine ⟨h, fun e he i hi => ?_⟩
    rw [← hc]; exact (close_bit h).mpr (.inr ⟨e, he, hi⟩)
  · rintro ⟨_, hi⟩
    apply Nat.eq_of_testBit_eq
    intro i
    rw [Bool.eq_iff_iff, close_bit h]
    constructor
    · rintro (h1 | ⟨e, h1, h2⟩)
      · exact h1
      · exact hi e h1 i h2
    · exact .inl
theorem close_beq {p : List Nat} {s : Nat} (h : s < 2 ^ p.length) : (close p s == s) = idealB p s := by
  rw [Bool.eq_iff_iff, beq_iff_eq, close_eq_iff h, idealB_iff h]
end Go.Proofs.Ytioibkdjcmkcpaa.M
end
section
namespace Go.Proofs.Ytioibkdjcmkcpaa.L
open Go.RowKit Go.Proofs.YtioibkdjcmkcpaaW.PrintWords Go.Proofs.YtioibkdjcmkcpaaW.PrintLast Go.Proofs.YtioibkdjcmkcpaaW.PrintMore
attribute [local go_sem] max2_int min2_int max_two min_two max_three min_three max_four min_four
set_option linter.unusedVariables false
set_option linter.unusedSimpArgs false
def impl_isTurn.f (a0 : Int) : Option (Bool) := (impl_within.f a0 1 60).bind fun t209 => (some t209)
set_option maxHeartbeats 8000000 in
set_option maxRecDepth 100000 in
theorem impl_isTurn.calls (a0 : Int) (r : Bool) (w : World) (h : impl_isTurn.f a0 = some r) :
    Calls Try.prog 102 #[.int .i64 a0] w fun e w' => e = .returned (.bool r) ∧ Drawn0 w w' := by
  have H : ((impl_within.f a0 1 60).bind fun t209 => (some t209)) = some r := h
  clear h
  replace H := Option.bind_eq_some_iff.mp H
  obtain ⟨t209, A20, H⟩ := H
  replace H : (some t209) = some r := H
  have A2 := Aside0.mk A20
  clear A20
  obtain rfl := Option.some.inj H
  go_enter Try.func102, Try.ntmps102
  go_wp2_with (first | ((with_reducible refine gate_callee (f := 59) rfl ?_); refine goesL_ (some 4) rfl rfl Try.func59 (by kernel_rfl) rfl #[.int .i64 a0, .int .i64 1, .int .i64 60] rfl (by (try simp only [List.map_toArray, List.map_cons, List.map_nil]); first | done | rfl | (simp only [List.length_drop, List.length_take]; rfl)) ?_; (with_reducible refine (impl_within.calls a0 1 60 t209 _ A2.out).mono ?_); rintro e w' ⟨rfl, ⟨nd, rfl⟩⟩; refine ⟨_, rfl, ?_⟩))
  go_ret
  exact ⟨by first | rfl | (simp; done) | (simp [*]; done), by repeat (first | exact Drawn0.refl _ | apply Drawn0.step)⟩
end Go.Proofs.Ytioibkdjcmkcpaa.L
end
section
namespace Go.Proofs.Ytioibkdjcmkcpaa.L
open Go.RowKit Go.Proofs.YtioibkdjcmkcpaaW.PrintWords Go.Proofs.YtioibkdjcmkcpaaW.PrintLast Go.Proofs.YtioibkdjcmkcpaaW.PrintMore
attribute [local go_sem] max2_int min2_int max_two min_two max_three min_three max_four min_four
set_option linter.unusedVariables false
set_option linter.unusedSimpArgs false
open Go.Proofs.Ytioibkdjcmkcpaa.X in
set_option maxHeartbeats 400000 in
set_option maxRecDepth 100000 in
theorem slices_IndexFunc.calls (A0 : Option Addr) (c0 : Nat) (l0 : List Int) (g : Nat) (lb : Array Value) (p : Int → Bool) (w : World) (eg : ∀ args w, (callFunc g args).run Try.prog w = .ok (.enter g args) w)
    (hr0 : Kd.C (Kd.int .i64) w A0 l0.length l0) (hl : l0.length ≤ 9223372036854775806) (hp : ∀ x, x ∈ l0 → Fv Try.prog g lb #[.int .i64 x] (.bool (p x)) w) :
    Calls Try.prog 133 #[.slice A0 l0.length c0, .func (.func g) #[] lb] w fun e w' => e = .returned (.int .i64 (idxOf p l0)) ∧ Below w.heap.size w w' := by
  have HR0 := Aside0.mk hr0
  have HP := Aside0.mk hp
  clear hr0 hp
  go_enter Try.func133, Try.ntmps133
  go_wp2
  go_loopw [8] (fun v8 wr => ∃ k : Nat, k ≤ l0.length ∧ v8 = .int .i64 k ∧ Aside0 (idxOf p l0 = idxFrom p (l0.drop k) k) ∧ Aside0 (Below w.heap.size w wr)) (fun v8 _ => l0.length - (intOf v8).toNat)
  case atStart => exact ⟨0, Nat.zero_le _, rfl, ⟨rfl⟩, ⟨Below.refl _ _⟩⟩
  case round =>
    obtain ⟨k, hk, rfl, HI, HB⟩ := hrel
    by_cases hlt : k < l0.length
    · have hdrop : l0.drop k = l0[k] :: l0.drop (k + 1) := (List.drop_eq_getElem_cons hlt)
      have hrd : rd l0 (k : Int) = l0[k] := by simp [rd, List.getD_eq_getElem?_getD, hlt]
      have hmem : l0[k] ∈ l0 := List.getElem_mem hlt
      have hfv := HP.out _ hmem
      rw [← hrd] at hfv
      have hI3 := Aside0.mk (show idxOf p l0 = if p (rd l0 (k : Int)) then (k : Int) else idxFrom p (l0.drop (k + 1)) (k + 1) by rw [hrd, HI.out, hdrop, idxFrom])
      have HF := Aside0.mk hfv
      clear hfv hdrop hrd HI hmem
      have p1 : 0 ≤ ((k : Nat) : Int) := by omega
      have q1 : ((k : Nat) : Int) < (l0.length : Int) := by omega
      obtain ⟨ad, e1, hx⟩ := Kd.at_int (Kd.C_below HR0.out HB.out) k p1 q1
      rw [Int.toNat_natCast] at hx
      cases e1
      by_cases hp : p (rd l0 (k : Int)) = true
      all_goals
        have hP := Aside0.mk hp
        go_wp2_with (go_at_fn g; (with_reducible refine (Fv.calls HF.out HB.out).mono ?_); rintro e w2 ⟨rfl, hb⟩)
        first | go_ret | go_roundw
      · exact ⟨by rw [hI3.out, if_pos hP.out]; rfl, below_to HB.out hb⟩
      case rel => exact ⟨k + 1, by omega, by go_num, ⟨by rw [hI3.out, if_neg hP.out]⟩, ⟨below_to HB.out hb⟩⟩
      case measure => simp [intOf]; omega
    · go_wp2
      go_ret
      exact ⟨by rw [HI.out, List.drop_of_length_le (by omega)]; rfl, HB.out⟩
end Go.Proofs.Ytioibkdjcmkcpaa.L
end
section
namespace Go.Proofs.Ytioibkdjcmkcpaa.L
open Go.RowKit Go.Proofs.YtioibkdjcmkcpaaW.PrintWords Go.Proofs.YtioibkdjcmkcpaaW.PrintLast Go.Proofs.YtioibkdjcmkcpaaW.PrintMore
attribute [local go_sem] max2_int min2_int max_two min_two max_three min_three max_four min_four
set_option linter.unusedVariables false
set_option linter.unusedSimpArgs false
open Go.Proofs.Ytioibkdjcmkcpaa.X in
set_option maxHeartbeats 400000 in
set_option maxRecDepth 100000 in
theorem slices_ContainsFunc.calls (A0 : Option Addr) (c0 : Nat) (l0 : List Int) (g : Nat) (lb : Array Value) (p : Int → Bool) (w : World) (eg : ∀ args w, (callFunc g args).run Try.prog w = .ok (.enter g args) w)
    (hr0 : Kd.C (Kd.int .i64) w A0 l0.length l0) (hl : l0.length ≤ 9223372036854775806) (hp : ∀ x, x ∈ l0 → Fv Try.prog g lb #[.int .i64 x] (.bool (p x)) w) :
    Calls Try.prog 123 #[.slice A0 l0.length c0, .func (.func g) #[] lb] w fun e w' => e = .returned (.bool (l0.any p)) ∧ Below w.heap.size w w' := by
  have EG := Aside0.mk eg
  have HR0 := Aside0.mk hr0
  have HP := Aside0.mk hp
  clear hr0 hp eg
  go_enter Try.func123, Try.ntmps123
  go_wp2_with (go_at_call 133; (with_reducible refine (slices_IndexFunc.calls _ _ l0 g lb p _ EG.out HR0.out hl HP.out).mono ?_); rintro e w2 ⟨rfl, hb⟩)
  go_ret
  refine ⟨?_, hb⟩
  have := idxFrom_any p l0 0
  unfold idxOf
  by_cases h : l0.any p = true
  · rw [h] at this ⊢; simp [this.mpr rfl]
  · have h2 : ¬ (0 ≤ idxFrom p l0 0) := fun z => h (this.mp z)
    simp [Bool.eq_false_iff.mpr h, h2]
end Go.Proofs.Ytioibkdjcmkcpaa.L
end
section
namespace Go.Proofs.Ytioibkdjcmkcpaa.L
open Go.RowKit Go.Proofs.YtioibkdjcmkcpaaW.PrintWords Go.Proofs.YtioibkdjcmkcpaaW.PrintLast Go.Proofs.YtioibkdjcmkcpaaW.PrintMore
attribute [local go_sem] max2_int min2_int max_two min_two max_three min_three max_four min_four
set_option linter.unusedVariables false
set_option linter.unusedSimpArgs false
def impl_areUpTo.p (m n : Int) : Bool := !(decide (0 ≤ n) && decide (n ≤ m))
def impl_areUpTo.f (l0 : List Int) (a1 : Int) : Option (Bool) := if l0.length ≤ 9223372036854775806 then some (!(l0.any (impl_areUpTo.p a1))) else none
open Go.Proofs.Ytioibkdjcmkcpaa.X in
set_option maxHeartbeats 400000 in
theorem impl_areUpTo.lit (n m : Int) (B : Nat) (w : World) (hB : B < w.heap.size) (hc : w.cell? ⟨B, 0, none⟩ = some (.int .i64 m)) :
    Fv Try.prog 124 #[.pointer (some ⟨B, 0, none⟩)] #[.int .i64 n] (.bool (impl_areUpTo.p m n)) w := by
  intro W hb
  have hc' : W.cell? ⟨B, 0, none⟩ = some (.int .i64 m) := (hb.cell (p := ⟨B, 0, none⟩) hB).trans hc
  obtain ⟨b, HW, hp⟩ : ∃ b, impl_within.f n 0 m = some b ∧ impl_areUpTo.p m n = !b := ⟨decide (0 ≤ n) && decide (n ≤ m), by unfold impl_within.f; by_cases h : 0 ≤ n <;> simp [h], rfl⟩
  rw [hp]
  have HA := Aside0.mk HW
  clear HW hp
  go_enter Try.func124, Try.ntmps124
  go_wp2_with (go_at_call 59; (with_reducible refine (impl_within.calls n 0 m b _ HA.out).mono ?_); rintro e w' ⟨rfl, ⟨nd, rfl⟩⟩)
  go_ret
  exact ⟨rfl, pw_below_drewN (Below.refl _ _) _⟩
open Go.Proofs.Ytioibkdjcmkcpaa.X in
set_option maxHeartbeats 400000 in
theorem impl_areUpTo.calls (A0 : Option Addr) (c0 : Nat) (l0 : List Int) (a1 : Int) (r : Bool) (w : World) (hr0 : Kd.C (Kd.int .i64) w A0 l0.length l0) (hc0 : l0.length ≤ c0) (h : impl_areUpTo.f l0 a1 = some r) :
    Calls Try.prog 103 #[.slice A0 l0.length c0, .int .i64 a1] w fun e w' => e = .returned (.bool r) ∧ Below w.heap.size w w' := by
  unfold impl_areUpTo.f at h
  split at h
  · rename_i hl
    obtain rfl := Option.some.inj h
    clear h
    have HR0 := Aside0.mk hr0
    have HL := Aside0.mk hl
    clear hr0 hl hc0
    have hC := Aside0.mk fun (W : World) (hB : w.heap.size < W.heap.size) (hcw : Kd.C (Kd.int .i64) W A0 l0.length l0) (hc : W.cell? ⟨w.heap.size, 0, none⟩ = some (.int .i64 a1)) =>
      slices_ContainsFunc.calls A0 c0 l0 124 #[.pointer (some ⟨w.heap.size, 0, none⟩)] (impl_areUpTo.p a1) W (enters_ Try.func124 (by kernel_rfl) rfl) hcw HL.out (fun x _ => impl_areUpTo.lit x a1 _ W hB hc)
    go_enter Try.func103, Try.ntmps103
    go_wp2_with (go_at_call 123; refine (hC.out _ (by simp) (Kd.C_alloc HR0.out _) (by simp)).mono ?_; rintro e w' ⟨rfl, hb⟩)
    go_ret
    exact ⟨rfl, ((Below.refl _ w).alloc (Nat.le_refl _) _).trans (hb.mono (by simp))⟩
  · exact absurd h (by simp)
end Go.Proofs.Ytioibkdjcmkcpaa.L
end
section
namespace Go.Proofs.Ytioibkdjcmkcpaa.L
open Go.RowKit Go.Proofs.YtioibkdjcmkcpaaW.PrintWords Go.Proofs.YtioibkdjcmkcpaaW.PrintLast Go.Proofs.YtioibkdjcmkcpaaW.PrintMore
attribute [local go_sem] max2_int min2_int max_two min_two max_three min_three max_four min_four
set_option linter.unusedVariables false
set_option linter.unusedSimpArgs false
def spec_l1All.l0 : Nat → Int → Int → List Int → Int → Int → Option (Bool)
  | 0, _, _, _, _, _ => none
  | k + 1, x1, x2, x9, x10, x11 => if x11 < x10 then (if 0 ≤ x11 then (if x11 < (x9.length : Int) then ((spec_l1In.f (rd x9 x11) x1 x2).bind fun t110 => (if t110 = true then (spec_l1All.l0 k x1 x2 x9 x10 (wrap64 (x11 + 1))) else (some false))) else (none)) else (none)) else (some true)
def spec_l1All.f (k : Nat) (l0 : List Int) (a1 : Int) (a2 : Int) : Option (Bool) := spec_l1All.l0 k a1 a2 l0 (l0.length : Int) 0
theorem spec_l1All.mono_l : ∀ k, (∀ y0 y1 y2 y3 y4, LeO (spec_l1All.l0 k y0 y1 y2 y3 y4) (spec_l1All.l0 (k + 1) y0 y1 y2 y3 y4))
  | 0 => fun _ _ _ _ _ r h => by simp [spec_l1All.l0] at h
  | k + 1 => by
    have ih0 := spec_l1All.mono_l k
    · intro y0 y1 y2 y3 y4
      unfold spec_l1All.l0
      repeat' first
      | (with_reducible exact ih0 _ _ _ _ _)
      | (with_reducible exact LeO.refl _)
      | (with_reducible exact LeO.none _)
      | (with_reducible refine LeO.ite ?_ ?_)
      | (with_reducible refine LeO.bind ?_ (fun _ => ?_))
      | exact ih0 _ _ _ _ _
      | exact LeO.none _
      | refine LeO.ite ?_ ?_
      | refine LeO.bind ?_ (fun _ => ?_)
theorem spec_l1All.mono : ∀ a0 a1 a2 k, LeO (spec_l1All.f k a0 a1 a2) (spec_l1All.f (k + 1) a0 a1 a2) := by
  intro a0 a1 a2 k
  have ih0 := spec_l1All.mono_l k
  unfold spec_l1All.f
  repeat' first
      | (with_reducible exact ih0 _ _ _ _ _)
      | (with_reducible exact LeO.refl _)
      | (with_reducible exact LeO.none _)
      | (with_reducible refine LeO.ite ?_ ?_)
      | (with_reducible refine LeO.bind ?_ (fun _ => ?_))
      | exact ih0 _ _ _ _ _
      | exact LeO.none _
      | refine LeO.ite ?_ ?_
      | refine LeO.bind ?_ (fun _ => ?_)
set_option maxHeartbeats 8000000 in
set_option maxRecDepth 100000 in
theorem spec_l1All.calls (k : Nat) (A0 : Option Addr) (c0 : Nat) (l0 : List Int) (a1 : Int) (a2 : Int) (r : Bool) (w : World) (hr0 : Kd.C (Kd.int .i64) w A0 l0.length l0) (hc0 : l0.length ≤ c0) (h : spec_l1All.f k l0 a1 a2 = some r) :
    Calls Try.prog 98 #[.slice A0 l0.length c0, .int .i64 a1, .int .i64 a2] w fun e w' => e = .returned (.bool r) ∧ Drawn0 w w' := by
  have HR0 := Aside0.mk hr0
  have HC0 := Aside0.mk hc0
  clear hr0 hc0
  have H : (spec_l1All.l0 k a1 a2 l0 (l0.length : Int) 0) = some r := h
  clear h
  have H' := Aside0.mk H
  clear H
  go_enter Try.func98, Try.ntmps98
  go_wp2
  go_loopg [11] k (fun kq v11 w' => ∃ (x11_1 : Int), v11 = .int .i64 x11_1 ∧ Aside0 (spec_l1All.l0 kq a1 a2 l0 (l0.length : Int) x11_1 = some r) ∧ Aside0 (kq ≤ k) ∧ Drawn0 w w')
  case atStart => exact ⟨(0), (by first | rfl | (simp; done) | (simp [*]; done)), H', ⟨Nat.le_refl _⟩, by repeat (first | exact Drawn0.refl _ | apply Drawn0.step)⟩
  case round =>
    clear H'
    try clear p2
    obtain ⟨x11_1, rfl, HA, HK1, ⟨m1, rfl⟩⟩ := hrel
    cases gk with
    | zero => exact absurd HA.out (by simp [spec_l1All.l0])
    | succ k1 =>
      have H := HA.out
      clear HA
      simp only [spec_l1All.l0] at H
      by_cases c4 : x11_1 < (l0.length : Int)
      · rw [if_pos c4] at H
        have c4b0 : decide (x11_1 < (l0.length : Int)) = true := decide_eq_true c4
        clear c4
        by_cases c5 : 0 ≤ x11_1
        · rw [if_pos c5] at H
          have c5b0 : decide (0 ≤ x11_1) = true := decide_eq_true c5
          clear c5
          by_cases c6 : x11_1 < (l0.length : Int)
          · rw [if_pos c6] at H
            have c6b0 : decide (x11_1 < (l0.length : Int)) = true := decide_eq_true c6
            clear c6
            replace H := Option.bind_eq_some_iff.mp H
            obtain ⟨t110, A70, H⟩ := H
            replace H : (if t110 = true then (spec_l1All.l0 k1 a1 a2 l0 (l0.length : Int) (wrap64 (x11_1 + 1))) else (some false)) = some r := H
            have A7 := Aside0.mk A70
            clear A70
            by_cases c8 : t110 = true
            · subst c8
              have H1 : (spec_l1All.l0 k1 a1 a2 l0 (l0.length : Int) (wrap64 (x11_1 + 1))) = some r := by rw [if_pos rfl] at H; exact H
              clear H
              have H := H1
              clear H1
              have H' := Aside0.mk H
              clear H
              have p109 : 0 ≤ (x11_1 : Int) := of_decide_eq_true (by first | (with_reducible assumption) | assumption)
              have q109 : x11_1 < (l0.length : Int) := of_decide_eq_true (by first | (with_reducible assumption) | assumption)
              obtain ⟨ad109, e109, hx109_0⟩ := Kd.at_int HR0.out x11_1 p109 q109
              cases e109
              replace p109 := eq_true p109
              replace q109 := eq_true q109
              go_wp2_with (first | ((with_reducible refine gate_callee (f := 55) rfl ?_); refine goesL_ (some 18) rfl rfl Try.func55 (by kernel_rfl) rfl #[.int .i64 (rd l0 x11_1), .int .i64 a1, .int .i64 a2] rfl (by (try simp only [List.map_toArray, List.map_cons, List.map_nil]); first | done | rfl | (simp only [List.length_drop, List.length_take]; rfl)) ?_; (with_reducible refine (spec_l1In.calls (rd l0 x11_1) a1 a2 true _ A7.out).mono ?_); rintro e w' ⟨rfl, ⟨nd, rfl⟩⟩; refine ⟨_, rfl, ?_⟩))
              go_roundg k1
              case measure => have := HK1.out; omega
              case rel => exact ⟨(wrap64 (x11_1 + 1)), (by first | rfl | (simp; done) | (simp [*]; done)), H', ⟨by have := HK1.out; omega⟩, by repeat (first | exact Drawn0.refl _ | apply Drawn0.step)⟩
            · replace c8 := Bool.eq_false_iff.mpr c8
              subst c8
              have H1 : (some false) = some r := by rw [if_neg (show ¬ (false = true) by decide)] at H; exact H
              clear H
              have H := H1
              clear H1
              obtain rfl := Option.some.inj H
              have p109 : 0 ≤ (x11_1 : Int) := of_decide_eq_true (by first | (with_reducible assumption) | assumption)
              have q109 : x11_1 < (l0.length : Int) := of_decide_eq_true (by first | (with_reducible assumption) | assumption)
              obtain ⟨ad109, e109, hx109_0⟩ := Kd.at_int HR0.out x11_1 p109 q109
              cases e109
              replace p109 := eq_true p109
              replace q109 := eq_true q109
              go_wp2_with (first | ((with_reducible refine gate_callee (f := 55) rfl ?_); refine goesL_ (some 18) rfl rfl Try.func55 (by kernel_rfl) rfl #[.int .i64 (rd l0 x11_1), .int .i64 a1, .int .i64 a2] rfl (by (try simp only [List.map_toArray, List.map_cons, List.map_nil]); first | done | rfl | (simp only [List.length_drop, List.length_take]; rfl)) ?_; (with_reducible refine (spec_l1In.calls (rd l0 x11_1) a1 a2 false _ A7.out).mono ?_); rintro e w' ⟨rfl, ⟨nd, rfl⟩⟩; refine ⟨_, rfl, ?_⟩))
              go_ret
              exact ⟨by first | rfl | (simp; done) | (simp [*]; done), by repeat (first | exact Drawn0.refl _ | apply Drawn0.step)⟩
          · rw [if_neg c6] at H
            exact absurd H (by simp)
        · rw [if_neg c5] at H
          exact absurd H (by simp)
      · rw [if_neg c4] at H
        have c4b0 : decide (x11_1 < (l0.length : Int)) = false := decide_eq_false c4
        clear c4
        obtain rfl := Option.some.inj H
        go_wp2
        go_ret
        exact ⟨by first | rfl | (simp; done) | (simp [*]; done), by repeat (first | exact Drawn0.refl _ | apply Drawn0.step)⟩
end Go.Proofs.Ytioibkdjcmkcpaa.L
end
section
namespace Go.Proofs.Ytioibkdjcmkcpaa.M
open Go.RowKit Go.Proofs.YtioibkdjcmkcpaaW.PrintWords Go.Proofs.YtioibkdjcmkcpaaW.PrintLast Go.Proofs.YtioibkdjcmkcpaaW.PrintMore Go.Proofs.Ytioibkdjcmkcpaa.L
theorem toIntS_l0 (l : List Int) (hl : l.length ≤ 35184372088832) : ∀ (d i : Nat) (acc : List Int), i + d = l.length → acc.length = l.length → Ev (fun k => laws_toIntS.l0 k l acc i) (acc.take i ++ l.drop i)
  | 0, i, acc, h, ha => by
    have h1 : ¬ ((i : Int) < (l.length : Int)) := by omega
    refine Ev.step (fun _ => rfl) (ev_neg h1 ?_)
    rw [List.take_of_length_le (by omega), List.drop_of_length_le (by omega), List.append_nil]
    exact Ev.now _
  | d + 1, i, acc, h, ha => by
    have h1 : (i : Int) < (l.length : Int) := by omega
    refine Ev.step (fun _ => rfl) (ev_pos h1 (ev_pos (by omega) (ev_pos (by omega) ?_)))
    rw [wrap_succ (by omega), rd_get (by omega : i < l.length), Int.toNat_natCast]
    have ih := toIntS_l0 l hl d (i + 1) (acc.set i l[i]) (by omega) (by simp [ha])
    have e : (acc.set i l[i]).take (i + 1) ++ l.drop (i + 1) = acc.take i ++ l.drop i := by
      rw [List.take_succ_eq_append_getElem (by simp; omega), List.getElem_set_self, List.drop_eq_getElem_cons (by omega : i < l.length)]
      simp [List.take_set_of_le]
    rw [← e]; exact ih
theorem toIntS_ev (l : List Int) (hl : l.length ≤ 35184372088832) : Ev (fun k => laws_toIntS.f k l) l := by
  have h := toIntS_l0 l hl l.length 0 (List.replicate l.length 0) (by omega) (by simp)
  exact ev_pos (by omega) (ev_pos (by simpa using hl) (by simpa using h))
theorem eqIntS_l0 (a b : List Int) (hl : a.length ≤ 9223372036854775806) (hab : a.length = b.length) : ∀ (d i : Nat), i + d = a.length → Ev (fun k => laws_eqIntS.l0 k a b i) (decide (a.drop i = b.drop i))
  | 0, i, h => by
    have h1 : ¬ ((i : Int) < (a.length : Int)) := by omega
    refine Ev.step (fun _ => rfl) (ev_neg h1 ?_)
    rw [List.drop_of_length_le (by omega), List.drop_of_length_le (by omega)]
    exact Ev.now _
  | d + 1, i, h => by
    have h1 : (i : Int) < (a.length : Int) := by omega
    refine Ev.step (fun _ => rfl) (ev_pos h1 (ev_pos (by omega) (ev_pos (by omega) ?_)))
    rw [wrap_succ (by omega), rd_get (by omega : i < a.length), rd_get (by omega : i < b.length)]
    rw [List.drop_eq_getElem_cons (by omega : i < a.length), List.drop_eq_getElem_cons (by omega : i < b.length)]
    refine ev_ite (fun e => ?_) (fun e => ?_)
    · rw [decide_eq_decide.mpr (show (a[i] :: a.drop (i + 1) = b[i] :: b.drop (i + 1)) ↔ a.drop (i + 1) = b.drop (i + 1) by rw [List.cons.injEq]; exact ⟨fun z => z.2, fun z => ⟨e, z⟩⟩)]
      exact eqIntS_l0 a b hl hab d (i + 1) (by omega)
    · rw [decide_eq_false (show ¬ (a[i] :: a.drop (i + 1) = b[i] :: b.drop (i + 1)) by rw [List.cons.injEq]; exact fun z => e z.1)]
      exact Ev.now false
theorem eqIntS_ev (a b : List Int) (hl : a.length ≤ 9223372036854775806) : Ev (fun k => laws_eqIntS.f k a b) (decide (a = b)) := by
  refine ev_ite (fun e => ?_) (fun e => ?_)
  · simpa using eqIntS_l0 a b hl (by omega) a.length 0 (by omega)
  · have : ¬ a = b := fun z => e (by rw [z])
    simpa [this] using Ev.now false
def marks (q : Nat) (n : Nat) : List Int := (List.range' q n).map Int.ofNat
theorem marks_len (q n : Nat) : (marks q n).length = n := by simp [marks]
theorem marks_get (q n i : Nat) (h : i < (marks q n).length) : (marks q n)[i] = ((q + i : Nat) : Int) := by simp [marks]
theorem markIntS_l0 (n : Nat) (hn : n ≤ 4611686018427387903) (q : Nat) (hq : q ≤ 4611686018427387903) : ∀ (d i : Nat) (acc : List Int), i + d = n → acc.length = n → (∀ j (hj : j < acc.length), j < i → acc[j] = ((q + j : Nat) : Int)) →
    Ev (fun k => laws_markIntS.l0 k acc ((q + i : Nat) : Int) i) (((q + n : Nat) : Int), marks q n)
  | 0, i, acc, h, ha, hm => by
    have h1 : ¬ ((i : Int) < (acc.length : Int)) := by omega
    refine Ev.step (fun _ => rfl) (ev_neg h1 ?_)
    have e : acc = marks q n := List.ext_getElem (by rw [ha, marks_len]) (fun j h1 h2 => by rw [hm j h1 (by omega), marks_get])
    have e2 : i = n := by omega
    rw [e, e2]; exact Ev.now _
  | d + 1, i, acc, h, ha, hm => by
    have h1 : (i : Int) < (acc.length : Int) := by omega
    refine Ev.step (fun _ => rfl) (ev_pos h1 (ev_pos (by omega) ?_))
    rw [wrap_succ (by omega), wrap_succ (by omega), Int.toNat_natCast]
    refine markIntS_l0 n hn q hq d (i + 1) (acc.set i ((q + i : Nat) : Int)) (by omega) (by simp [ha]) (fun j hj hji => ?_)
    by_cases e : j = i
    · subst e; simp
    · rw [List.getElem_set_ne (by omega)]; exact hm j _ (by omega)
theorem markIntS_ev (l : List Int) (q : Nat) (hl : l.length ≤ 4611686018427387903) (hq : q ≤ 4611686018427387903) : Ev (fun k => laws_markIntS.f k l (q : Int)) (((q + l.length : Nat) : Int), marks q l.length) :=
  markIntS_l0 l.length hl q hq l.length 0 l (by omega) rfl (fun j _ h => by omega)
theorem heldIntS_l0 (q n : Nat) (hn : n ≤ 4611686018427387903) (hq : q ≤ 4611686018427387903) : ∀ (d i : Nat), i + d = n → Ev (fun k => laws_heldIntS.l0 k (marks q n) ((q + i : Nat) : Int) i) ((q + n : Nat) : Int)
  | 0, i, h => by
    have hm := marks_len q n
    have h1 : ¬ ((i : Int) < ((marks q n).length : Int)) := by omega
    refine Ev.step (fun _ => rfl) (ev_neg h1 ?_)
    have e2 : i = n := by omega
    rw [e2]; exact Ev.now _
  | d + 1, i, h => by
    have hm := marks_len q n
    have h1 : (i : Int) < ((marks q n).length : Int) := by omega
    refine Ev.step (fun _ => rfl) (ev_pos h1 (ev_pos (by omega) (ev_pos ?_ ?_)))
    · rw [rd_get (by omega), marks_get]
    · rw [wrap_succ (by omega), wrap_succ (by omega)]
      exact heldIntS_l0 q n hn hq d (i + 1) (by omega)
theorem heldIntS_ev (q n : Nat) (hn : n ≤ 4611686018427387903) (hq : q ≤ 4611686018427387903) : Ev (fun k => laws_heldIntS.f k (marks q n) (q : Int)) ((q + n : Nat) : Int) :=
  heldIntS_l0 q n hn hq n 0 (by omega)
end Go.Proofs.Ytioibkdjcmkcpaa.M
end
section
namespace Go.Proofs.Ytioibkdjcmkcpaa.M
open Go.RowKit Go.Proofs.YtioibkdjcmkcpaaW.PrintWords Go.Proofs.YtioibkdjcmkcpaaW.PrintLast Go.Proofs.YtioibkdjcmkcpaaW.PrintMore Go.Proofs.Ytioibkdjcmkcpaa.L
theorem l1In_eq (x lo hi : Int) : spec_l1In.f x lo hi = some (inB x lo hi) := by
  unfold spec_l1In.f inB
  by_cases h : lo ≤ x <;> simp [h]
theorem within_eq (x lo hi : Int) : impl_within.f x lo hi = some (inB x lo hi) := by
  unfold impl_within.f inB
  by_cases h : lo ≤ x <;> simp [h]
theorem l1All_l0 (l : List Int) (lo hi : Int) (hl : l.length ≤ 9223372036854775806) : ∀ (d i : Nat), i + d = l.length → Ev (fun k => spec_l1All.l0 k lo hi l (l.length : Int) i) ((l.drop i).all (inB · lo hi))
  | 0, i, h => by
    refine Ev.step (fun _ => rfl) (ev_neg (by omega) ?_)
    rw [List.drop_of_length_le (by omega)]; exact Ev.now _
  | d + 1, i, h => by
    refine Ev.step (fun _ => rfl) (ev_pos (by omega) (ev_pos (by omega) (ev_pos (by omega) (ev_call (l1In_eq _ _ _) ?_))))
    rw [rd_get (by omega : i < l.length), wrap_succ (by omega), List.drop_eq_getElem_cons (by omega : i < l.length), List.all_cons]
    refine ev_ite (fun e => ?_) (fun e => ?_)
    · rw [e, Bool.true_and]; exact l1All_l0 l lo hi hl d (i + 1) (by omega)
    · rw [Bool.eq_false_iff.mpr e, Bool.false_and]; exact Ev.now _
theorem l1All_ev (l : List Int) (lo hi : Int) (hl : l.length ≤ 9223372036854775806) : Ev (fun k => spec_l1All.f k l lo hi) (l.all (inB · lo hi)) := l1All_l0 l lo hi hl l.length 0 (by omega)
theorem areUpTo_eq (l : List Int) (m : Int) (hl : l.length ≤ 9223372036854775806) : impl_areUpTo.f l m = some (l.all (inB · 0 m)) := by
  unfold impl_areUpTo.f
  rw [if_pos hl]
  congr 1
  rw [Bool.eq_iff_iff]
  simp [impl_areUpTo.p, inB]
theorem isTurn_eq (n : Int) : impl_isTurn.f n = some (inB n 1 60) := by simp [impl_isTurn.f, within_eq]
end Go.Proofs.Ytioibkdjcmkcpaa.M
end
section
namespace Go.Proofs.Ytioibkdjcmkcpaa.M
open Go.RowKit Go.Proofs.YtioibkdjcmkcpaaW.PrintWords Go.Proofs.YtioibkdjcmkcpaaW.PrintLast Go.Proofs.YtioibkdjcmkcpaaW.PrintMore Go.Proofs.Ytioibkdjcmkcpaa.L
set_option linter.unusedVariables false
theorem has_eq {s e : Nat} (hs : s < 2 ^ 63) (he : e ≤ 64) : impl_has.f (s : Int) (e : Int) = some (s.testBit e) := by
  unfold impl_has.f; rw [if_pos (by omega), bit_and hs he]
theorem poIn_eq {s e : Nat} (he : e ≤ 64) : spec_poIn.f (s : Int) (e : Int) = some (s.testBit e) := by
  unfold spec_poIn.f; rw [if_pos (by omega), bit_mod he]
theorem items_l0 (s : Nat) (hs : s < 2 ^ 63) : ∀ (d i : Nat) (acc : List Nat), i + d = 10 → acc.length ≤ i → Ev (fun k => impl_items.l0 k (s : Int) (toI acc) (i : Int)) (toI (acc ++ (List.range' i d).filter fun e => s.testBit e))
  | 0, i, acc, h, ha => by
    refine Ev.step (fun _ => impl_items.l0.eq_2 ..) (ev_neg (by omega) ?_)
    simpa using Ev.now _
  | d + 1, i, acc, h, ha => by
    refine Ev.step (fun _ => impl_items.l0.eq_2 ..) (ev_pos (by omega) (ev_call (has_eq hs (by omega)) ?_))
    rw [wrap_succ (by omega), List.range'_succ]
    refine ev_ite (fun e => ev_pos (by rw [toI_len]; omega) ?_) (fun e => ?_)
    · rw [← toI_one, ← toI_app, List.filter_cons_of_pos e]
      have := items_l0 s hs d (i + 1) (acc ++ [i]) (by omega) (by simp; omega)
      simpa using this
    · rw [List.filter_cons_of_neg e]
      exact items_l0 s hs d (i + 1) acc (by omega) (by omega)
theorem items_ev {s : Nat} (hs : s < 2 ^ 63) : Ev (fun k => impl_items.f k (s : Int)) (toI (items s)) := by
  have h := items_l0 s hs 10 0 [] (by omega) (by simp)
  rw [List.nil_append, ← List.range_eq_range'] at h
  exact h
theorem n_eq (l : List Int) : impl_Poset_n.f l = some (l.length : Int) := rfl
theorem all_eq {p : List Nat} (h : p.length ≤ 10) : impl_Poset_all.f (toI p) = some ((full p : Nat) : Int) := by
  unfold impl_Poset_all.f
  rw [n_eq, Option.bind_some, if_pos (by omega), toI_len, shl_one' (by omega)]; rfl
theorem items_all {m i : Nat} (hm : m < 2 ^ i) (hi : i ≤ 10) (g : Nat → Bool) : (items m).all g = (List.range i).all fun j => !(m.testBit j) || g j := by
  rw [Bool.eq_iff_iff]
  simp only [List.all_eq_true, mem_items, List.mem_range, Bool.or_eq_true, Bool.not_eq_true']
  constructor
  · intro h j hj
    cases hb : m.testBit j
    · exact .inl rfl
    · exact .inr (h j ⟨by omega, hb⟩)
  · rintro h j ⟨_, hb⟩
    rcases h j (bit_lt hm hb) with h2 | h2
    · rw [hb] at h2; cases h2
    · exact h2
theorem pow_small {i : Nat} (h : i ≤ 10) : 2 ^ i ≤ 1024 := by
  have := Nat.pow_le_pow_right (n := 2) (by decide) h
  simpa using this
theorem rd_getD (l : List Int) (i : Nat) : rd l (i : Int) = l.getD i 0 := by simp [rd]
theorem isPoset_l1 (l : List Int) (i m : Nat) (R : Bool) (hl : l.length ≤ 10) (hi : i < l.length) (hm : m < 2 ^ i) (ok : ∀ j, j < i → ∃ a : Nat, l.getD j 0 = (a : Int) ∧ a < 2 ^ j)
    (hR : Ev (fun k => impl_IsPoset.l0 k l (l.length : Int) ((i + 1 : Nat) : Int) l) R) : ∀ (d q : Nat), q + d = (items m).length →
    Ev (fun k => impl_IsPoset.l1 k (m : Int) l (l.length : Int) (i : Int) (toI (items m)) ((toI (items m)).length : Int) (q : Int) l) (((items m).drop q).all (fun j => sd (l.getD j 0).toNat m == 0) && R)
  | 0, q, h => by
    refine Ev.step (fun _ => impl_IsPoset.l1.eq_2 ..) (ev_neg (by rw [toI_len]; omega) ?_)
    rw [List.drop_of_length_le (by omega), List.all_nil, Bool.true_and, wrap_succ (by omega)]
    exact hR
  | d + 1, q, h => by
    have hq : q < (items m).length := by omega
    have hj : (items m)[q] ∈ items m := List.getElem_mem hq
    obtain ⟨_, hb⟩ := mem_items.mp hj
    have hji := bit_lt hm hb
    obtain ⟨a, ha, ha2⟩ := ok _ hji
    have e1 : rd (toI (items m)) (q : Int) = (((items m)[q] : Nat) : Int) := by rw [rd_toI]; simp [List.getD_eq_getElem?_getD, hq]
    have hlen := items_len m
    have hp1 := pow_small (show i ≤ 10 by omega)
    have hp2 := pow_small (show (items m)[q] ≤ 10 by omega)
    refine Ev.step (fun _ => impl_IsPoset.l1.eq_2 ..) ?_
    rw [e1]
    refine ev_pos (by rw [toI_len]; omega) (ev_pos (by omega) (ev_pos (by rw [toI_len]; omega) (ev_pos (by omega) (ev_pos (by omega) ?_))))
    rw [rd_getD, ha, bits_andNot (lt63 ha2 (by omega)) (lt63 hm (by omega)), wrap_succ (by omega), List.drop_eq_getElem_cons hq, List.all_cons, ha, Int.toNat_natCast]
    refine ev_ite (fun e => ?_) (fun e => ?_)
    · have e' : sd a m = 0 := by omega
      rw [e', beq_self_eq_true, Bool.true_and]
      exact isPoset_l1 l i m R hl hi hm ok hR d (q + 1) (by omega)
    · have e' : (sd a m == 0) = false := by rw [beq_eq_false_iff_ne]; omega
      rw [e', Bool.false_and, Bool.false_and]
      exact Ev.now _
theorem isPoset_l0 (l : List Int) (hl : l.length ≤ 10) : ∀ (d i : Nat), i + d = l.length → (∀ j, j < i → ∃ a : Nat, l.getD j 0 = (a : Int) ∧ a < 2 ^ j) →
    Ev (fun k => impl_IsPoset.l0 k l (l.length : Int) (i : Int) l) ((List.range' i d).all (okAt l))
  | 0, i, h, ok => by
    refine Ev.step (fun _ => impl_IsPoset.l0.eq_2 ..) (ev_neg (by omega) ?_)
    exact Ev.now _
  | d + 1, i, h, ok => by
    have hp1 := pow_small (show i ≤ 10 by omega)
    have hpos := Nat.two_pow_pos i
    refine Ev.step (fun _ => impl_IsPoset.l0.eq_2 ..) (ev_pos (by omega) (ev_pos (by omega) (ev_pos (by omega) (ev_call (within_eq _ _ _) ?_))))
    rw [rd_getD, shl_one' (by omega), List.range'_succ, List.all_cons, okAt_def l i]
    refine ev_ite (fun e => ?_) (fun e => ?_)
    · have b := inB_iff.mp e
      obtain ⟨m, hm⟩ : ∃ m : Nat, l.getD i 0 = (m : Int) := ⟨(l.getD i 0).toNat, by omega⟩
      rw [e, Bool.true_and, hm]
      have hm2 : m < 2 ^ i := by omega
      refine Ev.bind (items_ev (lt63 hm2 (by omega))) ?_
      have hnx := isPoset_l0 l hl d (i + 1) (by omega) (fun j hj => by
        by_cases hji : j = i
        · subst hji; exact ⟨m, hm, hm2⟩
        · exact ok j (by omega))
      have := isPoset_l1 l i m _ hl (by omega) hm2 ok hnx (items m).length 0 (by omega)
      rw [List.drop_zero, items_all hm2 (by omega)] at this
      simpa using this
    · rw [Bool.eq_false_iff.mpr e, Bool.false_and, Bool.false_and]
      exact Ev.now _
theorem isPoset_ev (l : List Int) : Ev (fun k => impl_IsPoset.f k l) (goodB l) := by
  refine ev_call (n_eq l) (ev_call (within_eq _ _ _) ?_)
  unfold goodB
  refine ev_ite (fun e => ?_) (fun e => ?_)
  · have b := inB_iff.mp e
    rw [e, Bool.true_and]
    exact isPoset_l0 l (by omega) l.length 0 (by omega) (fun j hj => by omega)
  · rw [Bool.eq_false_iff.mpr e, Bool.false_and]; exact Ev.now _
theorem poGood_l1 (l : List Int) (i m : Nat) (R : Bool) (hl : l.length ≤ 10) (hi : i < l.length) (hm : m < 2 ^ i) (ok : ∀ j, j < i → ∃ a : Nat, l.getD j 0 = (a : Int) ∧ a < 2 ^ j)
    (hR : Ev (fun k => spec_poGood.l0 k l (l.length : Int) ((i + 1 : Nat) : Int) l) R) : ∀ (d j : Nat), j + d = i →
    Ev (fun k => spec_poGood.l1 k (i : Int) (m : Int) (j : Int) l (l.length : Int) (i : Int) l) ((List.range' j d).all (fun j => !(m.testBit j) || sd (l.getD j 0).toNat m == 0) && R)
  | 0, j, h => by
    refine Ev.step (fun _ => spec_poGood.l1.eq_2 ..) (ev_neg (by omega) ?_)
    rw [wrap_succ (by omega)]
    simpa using hR
  | d + 1, j, h => by
    obtain ⟨a, ha, ha2⟩ := ok j (by omega)
    have hp1 := pow_small (show i ≤ 10 by omega)
    have hp2 := pow_small (show j ≤ 10 by omega)
    have ih := poGood_l1 l i m R hl hi hm ok hR d (j + 1) (by omega)
    refine Ev.step (fun _ => spec_poGood.l1.eq_2 ..) (ev_pos (by omega) (ev_pos (by omega) ?_))
    rw [wrap_succ (by omega), List.range'_succ, List.all_cons, rd_getD, ha, bits_andNot (lt63 ha2 (by omega)) (lt63 hm (by omega)), Int.toNat_natCast]
    refine ev_ite (fun e => ?_) (fun e => ?_)
    · rw [bit_mod' (by omega)] at e
      rw [e, Bool.not_true, Bool.false_or]
      refine ev_pos (by omega) (ev_ite (fun e => ?_) (fun e => ?_))
      · have e' : sd a m = 0 := by omega
        rw [e', beq_self_eq_true, Bool.true_and]; exact ih
      · have e' : (sd a m == 0) = false := by rw [beq_eq_false_iff_ne]; omega
        rw [e', Bool.false_and, Bool.false_and]; exact Ev.now _
    · rw [bit_mod' (by omega)] at e
      rw [Bool.eq_false_iff.mpr e, Bool.not_false, Bool.true_or, Bool.true_and]; exact ih
theorem poGood_l0 (l : List Int) (hl : l.length ≤ 10) : ∀ (d i : Nat), i + d = l.length → (∀ j, j < i → ∃ a : Nat, l.getD j 0 = (a : Int) ∧ a < 2 ^ j) →
    Ev (fun k => spec_poGood.l0 k l (l.length : Int) (i : Int) l) ((List.range' i d).all (okAt l))
  | 0, i, h, ok => by
    refine Ev.step (fun _ => spec_poGood.l0.eq_2 ..) (ev_neg (by omega) ?_)
    exact Ev.now _
  | d + 1, i, h, ok => by
    have hp1 := pow_small (show i ≤ 10 by omega)
    have hpos := Nat.two_pow_pos i
    refine Ev.step (fun _ => spec_poGood.l0.eq_2 ..) (ev_pos (by omega) (ev_pos (by omega) (ev_pos (by omega) (ev_call (l1In_eq _ _ _) ?_))))
    rw [rd_getD, shl_one' (by omega), List.range'_succ, List.all_cons, okAt_def l i]
    refine ev_ite (fun e => ?_) (fun e => ?_)
    · have b := inB_iff.mp e
      obtain ⟨m, hm⟩ : ∃ m : Nat, l.getD i 0 = (m : Int) := ⟨(l.getD i 0).toNat, by omega⟩
      rw [e, Bool.true_and, hm]
      have hm2 : m < 2 ^ i := by omega
      have hnx := poGood_l0 l hl d (i + 1) (by omega) (fun j hj => by
        by_cases hji : j = i
        · subst hji; exact ⟨m, hm, hm2⟩
        · exact ok j (by omega))
      have := poGood_l1 l i m _ hl (by omega) hm2 ok hnx i 0 (by omega)
      simpa [List.range_eq_range'] using this
    · rw [Bool.eq_false_iff.mpr e, Bool.false_and, Bool.false_and]
      exact Ev.now _
theorem poGood_ev (l : List Int) : Ev (fun k => spec_poGood.f k l) (goodB l) := by
  refine ev_call (l1In_eq _ _ _) ?_
  unfold goodB
  refine ev_ite (fun e => ?_) (fun e => ?_)
  · have b := inB_iff.mp e
    rw [e, Bool.true_and]
    exact poGood_l0 l (by omega) l.length 0 (by omega) (fun j hj => by omega)
  · rw [Bool.eq_false_iff.mpr e, Bool.false_and]; exact Ev.now _
end Go.Proofs.Ytioibkdjcmkcpaa.M
end
section
namespace Go.Proofs.Ytioibkdjcmkcpaa.M
open Go.RowKit Go.Proofs.YtioibkdjcmkcpaaW.PrintWords Go.Proofs.YtioibkdjcmkcpaaW.PrintLast Go.Proofs.YtioibkdjcmkcpaaW.PrintMore Go.Proofs.Ytioibkdjcmkcpaa.L
set_option linter.unusedVariables false
def setB (l : List Int) (s : Int) : Bool := goodB l && inB s 0 ((2 ^ l.length - 1 : Nat) : Int)
def idB (l : List Int) (s : Int) : Bool := setB l s && idealB (l.map Int.toNat) s.toNat
theorem setB_of {l : List Int} {s : Int} (h : setB l s = true) : ∃ (p : List Nat) (t : Nat), l = toI p ∧ s = (t : Int) ∧ Good p ∧ t < 2 ^ p.length := by
  simp only [setB, Bool.and_eq_true, inB_iff] at h
  obtain ⟨p, rfl, g⟩ := goodB_of h.1
  have := Nat.two_pow_pos p.length
  rw [toI_len] at h
  exact ⟨p, s.toNat, rfl, by omega, g, by omega⟩
theorem toNat_toI (p : List Nat) : (toI p).map Int.toNat = p := by
  simp only [toI, List.map_map]
  exact (List.map_congr_left (fun x _ => by simp)).trans (List.map_id p)
theorem idB_of {l : List Int} {s : Int} (h : idB l s = true) : ∃ (p : List Nat) (t : Nat), l = toI p ∧ s = (t : Int) ∧ Good p ∧ IsId p t := by
  simp only [idB, Bool.and_eq_true] at h
  obtain ⟨p, t, rfl, rfl, g, ht⟩ := setB_of h.1
  have h2 := h.2
  rw [toNat_toI, Int.toNat_natCast] at h2
  exact ⟨p, t, rfl, rfl, g, (idealB_iff ht).mp h2⟩
theorem setB_mk {p : List Nat} {t : Nat} (g : Good p) (ht : t < 2 ^ p.length) : setB (toI p) (t : Int) = true := by
  simp only [setB, Bool.and_eq_true, inB_iff, toI_len]
  exact ⟨goodB_toI g, by omega, by omega⟩
theorem idB_mk {p : List Nat} {t : Nat} (g : Good p) (ht : IsId p t) : idB (toI p) (t : Int) = true := by
  simp only [idB, Bool.and_eq_true]
  refine ⟨setB_mk g ht.1, ?_⟩
  rw [toNat_toI, Int.toNat_natCast]; exact (idealB_iff ht.1).mpr ht
theorem Good.len63 {p : List Nat} (g : Good p) {s : Nat} (h : s < 2 ^ p.length) : s < 2 ^ 63 := M.lt63 h (by have := g.le; omega)
theorem isSet_ev (l : List Int) (s : Int) : Ev (fun k => impl_isSet.f k l s) (setB l s) := by
  refine Ev.bind (isPoset_ev l) ?_
  unfold setB
  refine ev_ite (fun e => ?_) (fun e => ?_)
  · obtain ⟨p, rfl, g⟩ := goodB_of e
    rw [e, Bool.true_and, toI_len]
    exact ev_call (all_eq g.le) (ev_call (within_eq _ _ _) (Ev.now _))
  · rw [Bool.eq_false_iff.mpr e, Bool.false_and]; exact Ev.now _
theorem items_get {m q : Nat} (hq : q < (items m).length) : (items m)[q] < 10 ∧ m.testBit (items m)[q] = true := mem_items.mp (List.getElem_mem hq)
theorem rd_items {m q : Nat} (hq : q < (items m).length) : rd (toI (items m)) (q : Int) = (((items m)[q] : Nat) : Int) := by rw [rd_toI]; simp [List.getD_eq_getElem?_getD, hq]
theorem close_l0 {p : List Nat} (g : Good p) (s : Nat) (hs : s < 2 ^ p.length) : ∀ (d q a : Nat), q + d = (items s).length → a < 2 ^ p.length →
    Ev (fun k => impl_Poset_close.l0 k (a : Int) (toI (items s)) ((toI (items s)).length : Int) (q : Int) (toI p)) (((((items s).drop q).foldl (fun o e => o ||| less p e) a : Nat)) : Int)
  | 0, q, a, h, ha => by
    refine Ev.step (fun _ => impl_Poset_close.l0.eq_2 ..) (ev_neg (by rw [toI_len]; omega) ?_)
    rw [List.drop_of_length_le (by omega)]; exact Ev.now _
  | d + 1, q, a, h, ha => by
    have hq : q < (items s).length := by omega
    have hm := items_get hq
    have hb := bit_lt hs hm.2
    have hl := items_len s
    refine Ev.step (fun _ => impl_Poset_close.l0.eq_2 ..) ?_
    rw [rd_items hq, toI_len, toI_len]
    refine ev_pos (by omega) (ev_pos (by omega) (ev_pos (by omega) (ev_pos (by omega) (ev_pos (by omega) ?_))))
    rw [rd_less, bits_or (g.len63 ha) (g.lt63 _), wrap_succ (by omega), List.drop_eq_getElem_cons hq, List.foldl_cons, ← toI_len]
    exact close_l0 g s hs d (q + 1) _ (by omega) (Nat.or_lt_two_pow ha (g.lt10 _))
theorem close_ev {p : List Nat} (g : Good p) {s : Nat} (hs : s < 2 ^ p.length) : Ev (fun k => impl_Poset_close.f k (toI p) (s : Int)) ((close p s : Nat) : Int) := by
  refine Ev.bind (items_ev (g.len63 hs)) ?_
  have h := close_l0 g s hs (items s).length 0 s (by omega) hs
  rw [List.drop_zero, foldl_items_n _ _ hs g.le] at h
  exact h
theorem isIdeal_ev (l : List Int) (s : Int) : Ev (fun k => impl_isIdeal.f k l s) (idB l s) := by
  refine Ev.bind (isSet_ev l s) ?_
  unfold idB
  refine ev_ite (fun e => ?_) (fun e => ?_)
  · obtain ⟨p, t, rfl, rfl, g, ht⟩ := setB_of e
    rw [e, Bool.true_and, toNat_toI, Int.toNat_natCast, ← close_beq ht]
    refine Ev.bind (close_ev g ht) ?_
    have : (((close p t : Nat) : Int) == (t : Int)) = (close p t == t) := by
      rw [Bool.eq_iff_iff, beq_iff_eq, beq_iff_eq]; omega
    rw [this]; exact Ev.now _
  · rw [Bool.eq_false_iff.mpr e, Bool.false_and]; exact Ev.now _
theorem poSet_eq (p : List Nat) (s : Int) (h : p.length ≤ 10) : spec_poSet.f (toI p) s = some (inB s 0 ((2 ^ p.length - 1 : Nat) : Int)) := by
  unfold spec_poSet.f; rw [toI_len, shl_one' (by omega), l1In_eq]; rfl
theorem poIdeal_l0 {p : List Nat} (g : Good p) (s : Nat) (hs : s < 2 ^ p.length) : ∀ (d i : Nat), i + d = p.length →
    Ev (fun k => spec_poIdeal.l0 k (s : Int) (toI p) ((toI p).length : Int) (i : Int)) ((List.range' i d).all fun e => !(s.testBit e) || sd (less p e) s == 0)
  | 0, i, h => by
    refine Ev.step (fun _ => spec_poIdeal.l0.eq_2 ..) (ev_neg (by rw [toI_len]; omega) (Ev.now _))
  | d + 1, i, h => by
    have := g.le
    have ih := poIdeal_l0 g s hs d (i + 1) (by omega)
    refine Ev.step (fun _ => spec_poIdeal.l0.eq_2 ..) ?_
    refine ev_pos (by rw [toI_len]; omega) (ev_pos (by omega) (ev_pos (by rw [toI_len]; omega) (ev_call (poIn_eq (by omega)) ?_)))
    rw [rd_less, bits_andNot (g.lt63 _) (g.len63 hs), wrap_succ (by omega), List.range'_succ, List.all_cons]
    refine ev_ite (fun e => ?_) (fun e => ?_)
    · rw [e, Bool.not_true, Bool.false_or]
      refine ev_ite (fun e => ?_) (fun e => ?_)
      · have e' : sd (less p i) s = 0 := by omega
        rw [e', beq_self_eq_true, Bool.true_and]; exact ih
      · have e' : (sd (less p i) s == 0) = false := by rw [beq_eq_false_iff_ne]; omega
        rw [e', Bool.false_and]; exact Ev.now _
    · rw [Bool.eq_false_iff.mpr e, Bool.not_false, Bool.true_or, Bool.true_and]; exact ih
theorem poIdeal_ev {p : List Nat} (g : Good p) {s : Nat} (hs : s < 2 ^ p.length) : Ev (fun k => spec_poIdeal.f k (toI p) (s : Int)) (idealB p s) := poIdeal_l0 g s hs p.length 0 (by omega)
theorem tgIn_ev (l : List Int) (s : Int) : Ev (fun k => spec_tgIn.f k l s) (idB l s) := by
  refine Ev.bind (poGood_ev l) ?_
  unfold idB setB
  refine ev_ite (fun e => ?_) (fun e => ?_)
  · obtain ⟨p, rfl, g⟩ := goodB_of e
    rw [e, Bool.true_and, toI_len, toNat_toI]
    refine ev_call (poSet_eq p s g.le) (ev_ite (fun e => ?_) (fun e => ?_))
    · have b := inB_iff.mp e
      have := Nat.two_pow_pos p.length
      obtain ⟨t, rfl⟩ : ∃ t : Nat, s = (t : Int) := ⟨s.toNat, by omega⟩
      rw [e, Bool.true_and, Int.toNat_natCast]
      exact Ev.bind (poIdeal_ev g (by omega)) (Ev.now _)
    · rw [Bool.eq_false_iff.mpr e, Bool.false_and]; exact Ev.now _
  · rw [Bool.eq_false_iff.mpr e, Bool.false_and, Bool.false_and]; exact Ev.now _
end Go.Proofs.Ytioibkdjcmkcpaa.M
end
section
namespace Go.Proofs.Ytioibkdjcmkcpaa.M
open Go.RowKit Go.Proofs.YtioibkdjcmkcpaaW.PrintWords Go.Proofs.YtioibkdjcmkcpaaW.PrintLast Go.Proofs.YtioibkdjcmkcpaaW.PrintMore Go.Proofs.Ytioibkdjcmkcpaa.L
set_option linter.unusedVariables false
def okJ (p : List Nat) (x : List Int) (j : Nat) : Bool := idB (toI p) (rd x (j : Int)) && (j == 0 || Go.bits .andNot .i64 (rd x ((j : Int) - 1)) (rd x (j : Int)) == 0)
def cJ (x : List Int) (j e : Nat) : Nat := ((x.take j).filter fun s => !(s.toNat.testBit e)).length
theorem cJ_zero (x : List Int) (e : Nat) : cJ x 0 e = 0 := rfl
theorem cJ_succ {x : List Int} {j e : Nat} (h : j < x.length) : cJ x (j + 1) e = cJ x j e + if (rd x (j : Int)).toNat.testBit e = true then 0 else 1 := by
  unfold cJ
  rw [List.take_succ_eq_append_getElem h, List.filter_append, List.length_append, rd_get h]
  congr 1
  cases hb : x[j].toNat.testBit e
  · rw [List.filter_cons_of_pos (by rw [hb]; rfl)]; rfl
  · rw [List.filter_cons_of_neg (by rw [hb]; simp)]; rfl
theorem cJ_le (x : List Int) (j e : Nat) : cJ x j e ≤ x.length := by
  unfold cJ
  exact Nat.le_trans (List.length_filter_le _ _) (by rw [List.length_take]; omega)
def cL (n : Nat) (f : Nat → Nat) : List Nat := (List.range n).map f
theorem cL_len (n : Nat) (f : Nat → Nat) : (cL n f).length = n := by simp [cL]
theorem cL_get {n e : Nat} (f : Nat → Nat) (h : e < n) : (cL n f).getD e 0 = f e := by simp [cL, List.getD_eq_getElem?_getD, h]
theorem cL_set {n e : Nat} {f g : Nat → Nat} (v : Nat) (h1 : v = g e) (h2 : ∀ i, i < n → i ≠ e → f i = g i) : (cL n f).set e v = cL n g := by
  apply List.ext_getElem (by simp [cL])
  intro i h3 h4
  rw [List.getElem_set]
  simp only [cL, List.getElem_map, List.getElem_range]
  split
  · rename_i c; subst c; exact h1
  · exact h2 i (by simpa [cL] using h4) (by omega)
theorem cL_eq {n : Nat} {f g : Nat → Nat} (h : ∀ i, i < n → f i = g i) : cL n f = cL n g := by
  apply List.ext_getElem (by simp [cL])
  intro i h3 h4
  simp only [cL, List.getElem_map, List.getElem_range]
  exact h i (by simpa [cL] using h4)
theorem add_fold (n U : Nat) (f : Nat → Nat) : ∀ m, m ≤ n → foldBits m U (fun V e => V.set e (V.getD e 0 + 1)) (cL n f) = cL n (fun e => f e + if e < m ∧ U.testBit e = true then 1 else 0)
  | 0, _ => by
    show cL n f = _
    exact cL_eq fun i _ => by rw [if_neg (by omega), Nat.add_zero]
  | m + 1, h => by
    rw [foldBits_succ, add_fold n U f m (by omega)]
    split
    · rename_i hb
      rw [cL_get _ (by omega)]
      refine cL_set _ ?_ fun i hi hne => ?_
      · rw [if_neg (by omega), if_pos ⟨by omega, hb⟩]
      · congr 1
        by_cases c : i < m ∧ U.testBit i = true
        · rw [if_pos c, if_pos ⟨by omega, c.2⟩]
        · rw [if_neg c, if_neg (fun h => c ⟨by omega, h.2⟩)]
    · rename_i hb
      refine cL_eq fun i hi => ?_
      congr 1
      by_cases c : i < m ∧ U.testBit i = true
      · rw [if_pos c, if_pos ⟨by omega, c.2⟩]
      · refine (if_neg c).trans (if_neg (fun h => c ⟨?_, h.2⟩)).symm
        have : i ≠ m := fun e => by subst e; exact hb h.2
        omega
theorem outside_l1' {p : List Nat} (g : Good p) (x : List Int) (j U : Nat) (hU : U < 2 ^ p.length) (hj : j < 1000) (r : List Int × Bool) : ∀ (d q : Nat) (V : List Nat), q + d = (items U).length → V.length = p.length → (∀ e, V.getD e 0 + d ≤ 1000) →
    Ev (fun k => impl_outside.l0 k x (toI (((items U).drop q).foldl (fun V e => V.set e (V.getD e 0 + 1)) V)) x (x.length : Int) ((j + 1 : Nat) : Int) (toI p)) r →
    Ev (fun k => impl_outside.l1 k x (toI V) x (x.length : Int) (j : Int) (toI (items U)) ((toI (items U)).length : Int) (q : Int) (toI p)) r
  | 0, q, V, h, hV, hb, c => by
    refine Ev.step (fun _ => impl_outside.l1.eq_2 ..) (ev_neg (by rw [toI_len]; omega) ?_)
    rw [wrap_succ (by omega)]
    rw [List.drop_of_length_le (by omega)] at c; exact c
  | d + 1, q, V, h, hV, hb, c => by
    have hq : q < (items U).length := by omega
    have hm := items_get hq
    have he := bit_lt hU hm.2
    have hl := items_len U
    have hbe := hb (items U)[q]
    refine Ev.step (fun _ => impl_outside.l1.eq_2 ..) ?_
    rw [rd_items hq]
    refine ev_pos (by rw [toI_len]; omega) (ev_pos (by omega) (ev_pos (by rw [toI_len]; omega) (ev_pos (by omega) (ev_pos (by rw [toI_len]; omega) ?_))))
    rw [rd_toI, wrap_succ (by omega), wrap_succ (by omega), Int.toNat_natCast, toI_set]
    rw [List.drop_eq_getElem_cons hq, List.foldl_cons] at c
    refine outside_l1' g x j U hU hj r d (q + 1) _ (by omega) (by simpa using hV) (fun e => ?_) c
    have h1 := hb e
    by_cases ce : (items U)[q] = e
    · rw [← ce, List.getD_eq_getElem?_getD, List.getElem?_set_self (by omega), Option.getD_some]; omega
    · rw [List.getD_eq_getElem?_getD, List.getElem?_set_ne ce, ← List.getD_eq_getElem?_getD]; omega
def resJ (p : List Nat) (x : List Int) (ok : Bool) : List Int × Bool := if ok = true then (toI (cL p.length (cJ x x.length)), true) else ([], false)
theorem okJ_id {p : List Nat} {x : List Int} {j : Nat} (h : okJ p x j = true) : ∃ t : Nat, rd x (j : Int) = (t : Int) ∧ IsId p t := by
  unfold okJ at h
  rw [Bool.and_eq_true] at h
  obtain ⟨p', t, e, e2, _, ht⟩ := idB_of h.1
  obtain rfl := toI_inj e
  exact ⟨t, e2, ht⟩
theorem outside_l0 {p : List Nat} (g : Good p) (x : List Int) (hx : x.length ≤ 20) : ∀ (d j : Nat), j + d = x.length →
    Ev (fun k => impl_outside.l0 k x (toI (cL p.length (cJ x j))) x (x.length : Int) (j : Int) (toI p)) (resJ p x ((List.range' j d).all (okJ p x)))
  | 0, j, h => by
    refine Ev.step (fun _ => impl_outside.l0.eq_2 ..) (ev_neg (by omega) ?_)
    obtain rfl : j = x.length := by omega
    exact Ev.now _
  | d + 1, j, h => by
    have ih := outside_l0 g x hx d (j + 1) (by omega)
    refine Ev.step (fun _ => impl_outside.l0.eq_2 ..) (ev_pos (by omega) (ev_pos (by omega) (ev_pos (by omega) ?_)))
    refine Ev.bind (isIdeal_ev _ _) ?_
    rw [List.range'_succ, List.all_cons]
    have bad : okJ p x j = false → ∀ R : List Int × Bool, R = resJ p x (okJ p x j && (List.range' (j + 1) d).all (okJ p x)) → Ev (fun k => impl_outside.j2 k x (toI (cL p.length (cJ x j))) (rd x (j : Int)) x (x.length : Int) (j : Int) true (toI p)) R := by
      intro hk R hR
      subst hR
      rw [hk, Bool.false_and]
      exact Ev.step (fun _ => impl_outside.j2.eq_2 ..) (ev_pos rfl (Ev.now _))
    have good : okJ p x j = true → ∀ R : List Int × Bool, R = resJ p x (okJ p x j && (List.range' (j + 1) d).all (okJ p x)) → Ev (fun k => impl_outside.j2 k x (toI (cL p.length (cJ x j))) (rd x (j : Int)) x (x.length : Int) (j : Int) false (toI p)) R := by
      intro hk R hR
      subst hR
      obtain ⟨t, et, ht⟩ := okJ_id hk
      rw [hk, Bool.true_and]
      refine Ev.step (fun _ => impl_outside.j2.eq_2 ..) (ev_neg (by simp) (ev_call (all_eq g.le) ?_))
      rw [et, bits_andNot (g.len63 (full_lt p)) (g.len63 ht.1)]
      refine Ev.bind (items_ev (g.len63 (sd_lt _ (full_lt p)))) ?_
      refine outside_l1' g x j _ (sd_lt _ (full_lt p)) (by omega) _ _ 0 _ (Nat.zero_add _) (cL_len _ _) (fun e => ?_) ?_
      · have := items_len (sd (full p) t)
        by_cases he : e < p.length
        · rw [cL_get _ he]; have := cJ_le x j e; omega
        · rw [List.getD_eq_getElem?_getD, List.getElem?_eq_none (by rw [cL_len]; omega)]; simp; omega
      · rw [List.drop_zero, foldl_items_n _ _ (sd_lt _ (full_lt p)) g.le, add_fold _ _ _ _ (Nat.le_refl _)]
        have e : cL p.length (fun e => cJ x j e + if e < p.length ∧ (sd (full p) t).testBit e = true then 1 else 0) = cL p.length (cJ x (j + 1)) := by
          refine cL_eq fun i hi => ?_
          rw [cJ_succ (by omega), et, Int.toNat_natCast, sd_bit, full_bit]
          congr 1
          cases t.testBit i <;> simp [hi]
        rw [e]; exact ih
    by_cases hid : idB (toI p) (rd x (j : Int)) = true
    · rw [hid]
      refine ev_pos rfl (ev_ite (fun hj0 => ?_) (fun hj0 => ?_))
      · refine ev_pos (by rw [wrap_id (by omega) (by omega)]; omega) (ev_pos (by rw [wrap_id (by omega) (by omega)]; omega) ?_)
        rw [wrap_id (by omega) (by omega)]
        have hk : okJ p x j = (Go.bits .andNot .i64 (rd x ((j : Int) - 1)) (rd x (j : Int)) == 0) := by
          unfold okJ
          rw [hid, Bool.true_and, show (j == 0) = false by rw [beq_eq_false_iff_ne]; omega, Bool.false_or]
        by_cases hz : Go.bits .andNot .i64 (rd x ((j : Int) - 1)) (rd x (j : Int)) = 0
        · have e : (Go.bits .andNot .i64 (rd x ((j : Int) - 1)) (rd x (j : Int)) != 0) = false := by rw [hz]; rfl
          rw [e]
          exact good (by rw [hk, hz]; rfl) _ rfl
        · have e : (Go.bits .andNot .i64 (rd x ((j : Int) - 1)) (rd x (j : Int)) != 0) = true := by rw [bne_iff_ne]; exact hz
          rw [e]
          exact bad (by rw [hk, beq_eq_false_iff_ne]; exact hz) _ rfl
      · obtain rfl : j = 0 := by omega
        exact good (by unfold okJ; rw [hid]; rfl) _ rfl
    · have hk : okJ p x j = false := by unfold okJ; rw [Bool.eq_false_iff.mpr hid, Bool.false_and]
      exact ev_neg hid (bad hk _ rfl)
theorem outside_ev (l x : List Int) : Ev (fun k => impl_outside.f k l x 20) (if goodB l = true ∧ x.length ≤ 20 then resJ (l.map Int.toNat) x ((List.range' 0 x.length).all (okJ (l.map Int.toNat) x)) else ([], false)) := by
  refine Ev.bind (isPoset_ev l) (ev_ite (fun e => ?_) (fun e => ?_))
  · obtain ⟨p, rfl, g⟩ := goodB_of e
    rw [toNat_toI]
    by_cases hx : x.length ≤ 20
    · rw [if_pos ⟨e, hx⟩, show decide ((x.length : Int) > 20) = false by rw [decide_eq_false_iff_not]; omega]
      have gl := g.le
      refine Ev.step (fun _ => impl_outside.j0.eq_2 ..) (ev_neg (by simp) (ev_call (n_eq _) (ev_pos (by omega) (ev_pos (by rw [toI_len]; omega) ?_))))
      have := outside_l0 g x hx x.length 0 (by omega)
      have e2 : List.replicate ((toI p).length : Int).toNat (0 : Int) = toI (cL p.length (cJ x 0)) := by
        rw [toI_len, Int.toNat_natCast, show (0 : Int) = ((0 : Nat) : Int) from rfl, toI_rep]
        congr 1
        exact (List.eq_replicate_iff.mpr ⟨cL_len _ _, fun b hb => by unfold cL at hb; simp only [List.mem_map] at hb; obtain ⟨_, _, rfl⟩ := hb; rfl⟩).symm
      rw [e2]; exact this
    · rw [if_neg (fun h => hx h.2), show decide ((x.length : Int) > 20) = true by rw [decide_eq_true_eq]; omega]
      exact Ev.step (fun _ => impl_outside.j0.eq_2 ..) (ev_pos rfl (Ev.now _))
  · rw [if_neg (fun h => e h.1)]
    exact Ev.step (fun _ => impl_outside.j0.eq_2 ..) (ev_pos rfl (Ev.now _))
def wJ (n : Nat) (x : List Int) (e j : Nat) : List Nat := cL n fun i => if i < e then cJ x x.length i else if i = e then cJ x j i else 0
theorem fromL_l2 {p : List Nat} (g : Good p) (x : List Int) (hx : x.length ≤ 20) (hid : ∀ j, j < x.length → ∃ t : Nat, rd x (j : Int) = (t : Int)) (e : Nat) (he : e < p.length) (r : List Int × Bool) : ∀ (d j : Nat), j + d = x.length →
    Ev (fun k => spec_FromLayers.l1 k x (toI (wJ p.length x e x.length)) (p.length : Int) ((e + 1 : Nat) : Int)) r →
    Ev (fun k => spec_FromLayers.l2 k x (toI (wJ p.length x e j)) (e : Int) (p.length : Int) (e : Int) x (x.length : Int) (j : Int)) r
  | 0, j, h, c => by
    have gl := g.le
    refine Ev.step (fun _ => spec_FromLayers.l2.eq_2 ..) (ev_neg (by omega) ?_)
    rw [wrap_succ (by omega)]
    obtain rfl : j = x.length := by omega
    exact c
  | d + 1, j, h, c => by
    have gl := g.le
    obtain ⟨t, et⟩ := hid j (by omega)
    have ih := fromL_l2 g x hx hid e he r d (j + 1) (by omega) c
    have hs := cJ_succ (x := x) (j := j) (e := e) (by omega)
    rw [et, Int.toNat_natCast] at hs
    have hle := cJ_le x j e
    refine Ev.step (fun _ => spec_FromLayers.l2.eq_2 ..) (ev_pos (by omega) (ev_pos (by omega) (ev_pos (by omega) ?_)))
    rw [et, wrap_succ (i := j) (by omega)]
    refine ev_call (poIn_eq (by omega)) (ev_ite (fun hb => ?_) (fun hb => ?_))
    · rw [if_pos hb] at hs
      have e2 : wJ p.length x e (j + 1) = wJ p.length x e j := cL_eq fun i hi => by
        by_cases c1 : i < e
        · rw [if_pos c1, if_pos c1]
        · by_cases c2 : i = e
          · subst c2; rw [if_neg c1, if_neg c1, if_pos rfl, if_pos rfl, hs]; rfl
          · rw [if_neg c1, if_neg c1, if_neg c2, if_neg c2]
      rw [e2] at ih; exact ih
    · rw [if_neg hb] at hs
      refine ev_pos (by omega) (ev_pos (by rw [toI_len]; unfold wJ; rw [cL_len]; omega) ?_)
      have eg : (wJ p.length x e j).getD e 0 = cJ x j e := by unfold wJ; rw [cL_get _ he, if_neg (by omega), if_pos rfl]
      rw [rd_toI, eg, wrap_succ (by omega), Int.toNat_natCast, toI_set]
      have e2 : (wJ p.length x e j).set e (cJ x j e + 1) = wJ p.length x e (j + 1) := cL_set _ (by rw [if_neg (by omega), if_pos rfl, hs]) fun i hi hne => by rw [if_neg hne, if_neg hne]
      rw [e2]; exact ih
theorem fromL_l1 {p : List Nat} (g : Good p) (x : List Int) (hx : x.length ≤ 20) (hid : ∀ j, j < x.length → ∃ t : Nat, rd x (j : Int) = (t : Int)) : ∀ (d e : Nat), e + d = p.length →
    Ev (fun k => spec_FromLayers.l1 k x (toI (wJ p.length x e 0)) (p.length : Int) (e : Int)) (toI (cL p.length (cJ x x.length)), true)
  | 0, e, h => by
    refine Ev.step (fun _ => spec_FromLayers.l1.eq_2 ..) (ev_neg (by omega) ?_)
    have e2 : wJ p.length x e 0 = cL p.length (cJ x x.length) := cL_eq fun i hi => by rw [if_pos (by omega)]
    rw [e2]; exact Ev.now _
  | d + 1, e, h => by
    refine Ev.step (fun _ => spec_FromLayers.l1.eq_2 ..) (ev_pos (by omega) ?_)
    refine fromL_l2 g x hx hid e (by omega) _ x.length 0 (by omega) ?_
    have e2 : wJ p.length x e x.length = wJ p.length x (e + 1) 0 := cL_eq fun i hi => by
      by_cases c1 : i < e
      · rw [if_pos c1, if_pos (by omega)]
      · by_cases c2 : i = e
        · rw [if_neg c1, if_pos c2, if_pos (by omega)]
        · rw [if_neg c1, if_neg c2, if_neg (by omega)]
          by_cases c3 : i = e + 1
          · rw [if_pos c3, cJ_zero]
          · rw [if_neg c3]
    rw [e2]
    exact fromL_l1 g x hx hid d (e + 1) (by omega)
theorem fromL_l0 {p : List Nat} (g : Good p) (x : List Int) (hx : x.length ≤ 20) : ∀ (d j : Nat), j + d = x.length → (∀ i, i < j → okJ p x i = true) →
    Ev (fun k => spec_FromLayers.l0 k x x (x.length : Int) (j : Int) (toI p)) (resJ p x ((List.range' j d).all (okJ p x)))
  | 0, j, h, ok => by
    have gl := g.le
    refine Ev.step (fun _ => spec_FromLayers.l0.eq_2 ..) (ev_neg (by omega) (ev_pos (by omega) (ev_pos (by rw [toI_len]; omega) (ev_call rfl ?_))))
    have e2 : List.replicate ((toI p).length : Int).toNat (0 : Int) = toI (wJ p.length x 0 0) := by
      rw [toI_len, Int.toNat_natCast, show (0 : Int) = ((0 : Nat) : Int) from rfl, toI_rep]
      congr 1
      refine (List.eq_replicate_iff.mpr ⟨cL_len _ _, fun b hb => ?_⟩).symm
      unfold wJ cL at hb; simp only [List.mem_map] at hb
      obtain ⟨i, _, rfl⟩ := hb
      rw [if_neg (by omega)]
      split <;> rfl
    rw [e2, toI_len]
    have el : (wJ p.length x 0 0).length = p.length := cL_len _ _
    rw [el]
    exact fromL_l1 g x hx (fun j hj => by obtain ⟨t, e, _⟩ := okJ_id (ok j (by omega)); exact ⟨t, e⟩) p.length 0 (by omega)
  | d + 1, j, h, ok => by
    have gl := g.le
    have hp := Nat.two_pow_pos p.length
    refine Ev.step (fun _ => spec_FromLayers.l0.eq_2 ..) (ev_pos (by omega) (ev_pos (by omega) (ev_pos (by omega) (ev_call (poSet_eq p _ gl) ?_))))
    rw [List.range'_succ, List.all_cons]
    have idb : idB (toI p) (rd x (j : Int)) = (inB (rd x (j : Int)) 0 ((2 ^ p.length - 1 : Nat) : Int) && idealB p (rd x (j : Int)).toNat) := by
      unfold idB setB; rw [goodB_toI g, Bool.true_and, toI_len, toNat_toI]
    have bad : okJ p x j = false → resJ p x (okJ p x j && (List.range' (j + 1) d).all (okJ p x)) = ([], false) := by intro hk; rw [hk, Bool.false_and]; rfl
    refine ev_ite (fun e => ?_) (fun e => ?_)
    · have b := inB_iff.mp e
      rw [e, Bool.true_and] at idb
      obtain ⟨t, et⟩ : ∃ t : Nat, rd x (j : Int) = (t : Int) := ⟨(rd x (j : Int)).toNat, by omega⟩
      have hpi := poIdeal_ev g (s := t) (by omega)
      rw [← et] at hpi
      rw [et, Int.toNat_natCast] at idb
      refine Ev.bind hpi (ev_ite (fun e3 => ?_) (fun e3 => ?_))
      · rw [e3, ← et] at idb
        refine ev_ite (fun hj0 => ?_) (fun hj0 => ?_)
        · refine ev_pos (by rw [wrap_id (by omega) (by omega)]; omega) (ev_pos (by rw [wrap_id (by omega) (by omega)]; omega) ?_)
          rw [wrap_id (x := (j : Int) - 1) (by omega) (by omega)]
          have hk : okJ p x j = (Go.bits .andNot .i64 (rd x ((j : Int) - 1)) (rd x (j : Int)) == 0) := by
            unfold okJ
            rw [idb, Bool.true_and, show (j == 0) = false by rw [beq_eq_false_iff_ne]; omega, Bool.false_or]
          refine ev_ite (fun hz => ?_) (fun hz => ?_)
          · have hk2 : okJ p x j = true := by rw [hk, hz]; rfl
            rw [hk2, Bool.true_and, wrap_succ (by omega)]
            exact fromL_l0 g x hx d (j + 1) (by omega) fun i hi => by
              by_cases c : i = j
              · subst c; exact hk2
              · exact ok i (by omega)
          · rw [bad (by rw [hk, beq_eq_false_iff_ne]; exact hz)]; exact Ev.now _
        · obtain rfl : j = 0 := by omega
          have hk2 : okJ p x 0 = true := by unfold okJ; rw [idb]; rfl
          rw [hk2, Bool.true_and, wrap_succ (by omega)]
          exact fromL_l0 g x hx d (0 + 1) (by omega) fun i hi => by
            obtain rfl : i = 0 := by omega
            exact hk2
      · have hk : okJ p x j = false := by unfold okJ; rw [et, idb, Bool.eq_false_iff.mpr e3, Bool.false_and]
        rw [bad hk]; exact Ev.now _
    · have hk : okJ p x j = false := by unfold okJ; rw [idb, Bool.eq_false_iff.mpr e, Bool.false_and, Bool.false_and]
      rw [bad hk]; exact Ev.now _
theorem agree_FnExactFromLayers (l x : List Int) (hl : l.length ≤ 1048576) (hx : x.length ≤ 1048576) : ∃ r : List Int × Bool, r.1.length ≤ 1000 ∧ Ev (fun k => spec_FromLayers.f k l x) r ∧ Ev (fun k => impl_FromLayers.f k l x) r := by
  refine ⟨_, ?_, ?_, Ev.bind (outside_ev l x) (Ev.now _)⟩
  · split
    · rename_i h
      obtain ⟨p, rfl, g⟩ := goodB_of h.1
      rw [toNat_toI]
      unfold resJ; split
      · rw [toI_len, cL_len]; have := g.le; omega
      · exact Nat.zero_le _
    · exact Nat.zero_le _
  · refine Ev.bind (poGood_ev l) (ev_ite (fun e => ?_) (fun e => ?_))
    · obtain ⟨p, rfl, g⟩ := goodB_of e
      rw [toNat_toI]
      by_cases hx : x.length ≤ 20
      · rw [if_pos ⟨e, hx⟩, show decide ((x.length : Int) > 20) = false by rw [decide_eq_false_iff_not]; omega]
        exact Ev.step (fun _ => spec_FromLayers.j0.eq_2 ..) (ev_neg (by simp) (fromL_l0 g x hx x.length 0 (by omega) fun i hi => by omega))
      · rw [if_neg (fun h => hx h.2), show decide ((x.length : Int) > 20) = true by rw [decide_eq_true_eq]; omega]
        exact Ev.step (fun _ => spec_FromLayers.j0.eq_2 ..) (ev_pos rfl (Ev.now _))
    · rw [if_neg (fun h => e h.1)]
      exact Ev.step (fun _ => spec_FromLayers.j0.eq_2 ..) (ev_pos rfl (Ev.now _))
end Go.Proofs.Ytioibkdjcmkcpaa.M
end
section
namespace Go.Proofs.Ytioibkdjcmkcpaa.M
open Go.RowKit Go.Proofs.YtioibkdjcmkcpaaW.PrintWords Go.Proofs.YtioibkdjcmkcpaaW.PrintLast Go.Proofs.YtioibkdjcmkcpaaW.PrintMore Go.Proofs.Ytioibkdjcmkcpaa.L
theorem szIntS_eq (l : List Int) (h : l.length ≤ maxLen) : laws_szIntS.f l 1048576 = some (if 1048576 < l.length then -1 else 1048576 - (l.length : Int)) := by
  unfold maxLen at h
  unfold laws_szIntS.f
  rw [wrap_id (by omega) (by omega)]
  by_cases h2 : 1048576 < l.length
  · rw [if_pos (by omega), if_pos h2]
  · rw [if_neg (by omega), if_neg h2]
theorem szPoset_eq (l : List Int) (h : l.length ≤ maxLen) : laws_szPoset.f l 1048576 = some (if 1048576 < l.length then -1 else 1048576 - (l.length : Int)) := by
  unfold laws_szPoset.f
  rw [szIntS_eq l h, Option.bind_some]
  split
  · rfl
  · rw [if_neg (by omega)]
theorem toPoset_ev (l : List Int) (hl : l.length ≤ 35184372088832) : Ev (fun k => laws_toPoset.f k l) l := Ev.bind (toIntS_ev l hl) (Ev.now _)
theorem eqPoset_ev (a b : List Int) (hl : a.length ≤ 9223372036854775806) : Ev (fun k => laws_eqPoset.f k a b) (decide (a = b)) := by
  refine Ev.bind (eqIntS_ev a b hl) (ev_ite (fun e => ?_) (fun e => ?_))
  · rw [e]; exact Ev.now _
  · rw [Bool.eq_false_iff.mpr e]; exact Ev.now _
theorem eqPoset_refl (a : List Int) (hl : a.length ≤ 9223372036854775806) : Ev (fun k => laws_eqPoset.f k a a) true := by simpa using eqPoset_ev a a hl
theorem eqIntS_refl (a : List Int) (hl : a.length ≤ 9223372036854775806) : Ev (fun k => laws_eqIntS.f k a a) true := by simpa using eqIntS_ev a a hl
theorem markPoset_ev (l : List Int) (q : Nat) (hl : l.length ≤ 4611686018427387903) (hq : q ≤ 4611686018427387903) : Ev (fun k => laws_markPoset.f k l (q : Int)) (((q + l.length : Nat) : Int), marks q l.length) := Ev.bind (markIntS_ev l q hl hq) (Ev.now _)
end Go.Proofs.Ytioibkdjcmkcpaa.M
end
section
namespace Go.Proofs.Ytioibkdjcmkcpaa.Pure
open Go.RowKit Go.Proofs.YtioibkdjcmkcpaaW.PrintWords Go.Proofs.YtioibkdjcmkcpaaW.PrintLast Go.Proofs.YtioibkdjcmkcpaaW.PrintMore Go.Proofs.Ytioibkdjcmkcpaa.L Go.Proofs.Ytioibkdjcmkcpaa.M
theorem FnExactFromLayers : laws_FnExactFromLayers.Pure2 := by
  intro l0 l1 hm0 hw0 hm1 hw1
  refine Ev.rounds ?_
  by_cases b1 : (l1.length : Int) > 1048576
  · exact ev_pos b1 (Ev.now _)
  refine ev_neg b1 ?_
  refine ev_call (szPoset_eq l0 hm0) ?_
  by_cases b0 : 1048576 < l0.length
  · rw [if_pos b0]; exact ev_pos (by decide) (Ev.now _)
  rw [if_neg b0]
  refine ev_neg (by omega) ?_
  have T0 := toPoset_ev l0 (by omega)
  have E0 := eqPoset_refl l0 (by omega)
  have M0 := markPoset_ev l0 (1) (by omega) (by omega)
  have T1 := toIntS_ev l1 (by omega)
  have E1 := eqIntS_refl l1 (by omega)
  have M1 := markIntS_ev l1 (1 + l0.length) (by omega) (by omega)
  obtain ⟨r, hr, hs, hi⟩ := agree_FnExactFromLayers l0 l1 (by omega) (by omega)
  have Er := eqIntS_refl r.1 (by omega)
  have Mr := markIntS_ev r.1 1 (by omega) (by omega)
  have Hr := heldIntS_ev 1 r.1.length (by omega) (by omega)
  repeat' first
    | with_reducible exact Ev.now true
    | with_reducible refine Ev.bind hs ?_
    | with_reducible refine Ev.bind hi ?_
    | with_reducible refine Ev.bind T0 ?_
    | with_reducible refine Ev.bind E0 ?_
    | with_reducible refine Ev.bind M0 ?_
    | with_reducible refine Ev.bind T1 ?_
    | with_reducible refine Ev.bind E1 ?_
    | with_reducible refine Ev.bind M1 ?_
    | with_reducible refine Ev.bind Er ?_
    | with_reducible refine Ev.bind Mr ?_
    | with_reducible refine Ev.bind Hr ?_
    | with_reducible refine Ev.step (fun _ => laws_FnExactFromLayers.j0.eq_2 ..) ?_
    | with_reducible refine Ev.step (fun _ => laws_FnExactFromLayers.j1.eq_2 ..) ?_
    | with_reducible refine Ev.step (fun _ => laws_FnExactFromLayers.j2.eq_2 ..) ?_
    | with_reducible refine ev_pos rfl ?_
    | (with_reducible refine ev_neg ?h ?_; case h => first | (simp; done) | omega | (simp only; omega) | (simp; omega))
end Go.Proofs.Ytioibkdjcmkcpaa.Pure
end
section
namespace Go.Proofs.Ytioibkdjcmkcpaa.R
open Go.ChangeShapes Go.WideShapes Go.ChangeAt Go.RowKit
open Go.ChangeMaps (open_string shut_string)
set_option linter.unusedVariables false
def IsRow (k : IntKind) (w : World) (a : Option Addr) (len cap : Nat) (zs : List Int) : Prop :=
  (a = none ∧ len = 0 ∧ cap = 0 ∧ zs = []) ∨
  ∃ x, a = some x ∧ len ≤ cap ∧ cap ≤ maxLen ∧ zs.length = cap ∧ (∀ i, i < zs.length → w.cell? (x.add i) = some (.int k (zs.getD i 0))) ∧ ∀ n ∈ zs, (Lit.int k n).wf = true
variable {H : Type} {enc : TypeId × Value → H} {P : Program} {W : World} {base : Nat} {ps : List MemPlace}
theorem row_of {t e : TypeId} {k : IntKind} {fuel : Nat} {c : Value} {y : DataW H × List MemPlace} (hu : P.underlying t = some (.slice e)) (he : P.underlying e = some (.int k)) (hc : P.cellsOf e = 1)
    (hf : DataW.trod enc P W 0 (fun _ => true) true fuel t [c] = some y) : ∃ a len cap zs, c = .slice a len cap ∧ IsRow k W a len cap zs := by
  rcases open_ints hu he hc hf with ⟨hcs, _⟩ | ⟨x, l, c', zs, hcs, _, hl, hm, hz, _, hcell, hwz⟩
  · simp only [List.cons.injEq, and_true] at hcs
    subst hcs
    exact ⟨_, _, _, [], rfl, .inl ⟨rfl, rfl, rfl, rfl⟩⟩
  · simp only [List.cons.injEq, and_true] at hcs
    subst hcs
    exact ⟨_, _, _, zs, rfl, .inr ⟨_, rfl, hl, hm, by simpa using hz, hcell, hwz⟩⟩
theorem array1 {α : Type} {cs : Array α} (h : cs.size = 1) : ∃ c0, cs = #[c0] := by
  obtain ⟨l⟩ := cs
  match l, h with
  | [c0], _ => exact ⟨c0, rfl⟩
theorem open_poset {r : Reach} {t e : TypeId} {f : Field} {v : Value} {d : DataW H} (hs : P.underlying t = some (.struct #[f])) (ho : f.offset = 0) (hC : P.cellsOf t = 1) (hfc : P.cellsOf f.type = 1) (hu : P.underlying f.type = some (.slice e)) (he : P.underlying e = some (.int .i64)) (hc : P.cellsOf e = 1)
    (hv : Value.okWide P W r base t v) (h : DataW.Trod enc P W 0 (fun _ => true) true t v d ps) : ∃ a len cap zs, v = .agg #[.slice a len cap] ∧ IsRow .i64 W a len cap zs := by
  obtain ⟨cs, rfl, hsz⟩ := okWide_struct hs hv
  obtain ⟨c0, rfl⟩ := array1 (hsz.trans hC)
  obtain ⟨fuel, hf⟩ := h
  obtain ⟨y0, n, _, _, h0⟩ := trod_struct1 hs hf
  rw [ho, hfc] at h0
  obtain ⟨a, len, cap, zs, rfl, hz⟩ := row_of hu he hc (by simpa [Value.cells] using h0)
  exact ⟨a, len, cap, zs, rfl, hz⟩
theorem open_desk {r : Reach} {t e : TypeId} {f f1 g : Field} {v : Value} {d : DataW H} (hs : P.underlying t = some (.struct #[f, f1])) (ho : f.offset = 0) (ho1 : f1.offset = 1) (hC : P.cellsOf t = 2) (hfc : P.cellsOf f.type = 1) (hfc1 : P.cellsOf f1.type = 1)
    (hs2 : P.underlying f.type = some (.struct #[g])) (hgo : g.offset = 0) (hgc : P.cellsOf g.type = 1) (hu : P.underlying g.type = some (.slice e)) (he : P.underlying e = some (.int .i64)) (hc : P.cellsOf e = 1) (hi : P.underlying f1.type = some (.int .i64))
    (hv : Value.okWide P W r base t v) (h : DataW.Trod enc P W 0 (fun _ => true) true t v d ps) : ∃ a len cap zs x, v = .agg #[.slice a len cap, .int .i64 x] ∧ IsRow .i64 W a len cap zs ∧ (Lit.int .i64 x).wf = true := by
  obtain ⟨cs, rfl, hsz⟩ := okWide_struct hs hv
  obtain ⟨c0, c1, rfl⟩ := Joins.array2 (hsz.trans hC)
  obtain ⟨fuel, hf⟩ := h
  obtain ⟨y0, y1, n, _, _, h0, h1⟩ := trod_struct2 hs hf
  rw [ho, hfc] at h0
  rw [ho1, hfc1] at h1
  obtain ⟨z0, m, _, _, h00⟩ := trod_struct1 hs2 h0
  rw [hgo, hgc] at h00
  obtain ⟨a, len, cap, zs, rfl, hz⟩ := row_of hu he hc (by simpa [Value.cells] using h00)
  obtain ⟨x, e0, e1, wx⟩ := DataW.trod_int hi h1
  simp [Value.cells] at e0
  subst e0
  exact ⟨a, len, cap, zs, x, rfl, hz, wx⟩
end Go.Proofs.Ytioibkdjcmkcpaa.R
end
section
namespace Go.Proofs.Ytioibkdjcmkcpaa.fnExactFromLayers
open Go.ChangeShapes Go.WideShapes Go.ChangeAt Go.RowKit Go.Proofs.YtioibkdjcmkcpaaW.PrintWords Go.Proofs.Ytioibkdjcmkcpaa.R
open Go.ChangeMaps (open_string shut_string)
set_option linter.unusedVariables false
theorem own : ownKnob Try.prog.godebug = none := by kernel_rfl
theorem laidOut : laidOutB Try.prog = true := by kernel_rfl
set_option maxRecDepth 100000 in
theorem lifted (os : Os) (started : os.Started) (H : Type) (enc : TypeId × Value → H) :
    ReturnsInHanded {} Try.checked os 7 .any (Rows.fnExactFromLayersSpec.pre6 enc Try.prog Try.f7 Rows.fnExactFromLayersRow.domain false) (Rows.fnExactFromLayersSpec.post enc Try.prog Try.f7 false true false false) := by
  refine returnsInHanded_of_change_sized (C := Try.checked) own started (by kernel_rfl) Try.func7
    (ChangeSpec.witness6 (enc := enc) (C := Try.checked) false ⟨#[], #[.agg #[.slice none 0 0], .slice none 0 0], []⟩ 8 (by kernel_rfl) (by kernel_rfl) (by kernel_rfl) (by kernel_rfl)) ?_
  intro W base args ds gs before hval0 hW hcnd hsz0 _
  have hval : ∀ (j : Nat) t v, Try.f7.params[j]? = some t → args[j]? = some v → Value.okWide Try.prog W .any base t v := hval0
  have hW' := hW
  obtain ⟨p, q, hA0, hV, rfl, hfz, hnd⟩ := hW
  have hA : DataW.TrodAll enc Try.prog W 0 (fun _ => true) true Try.f7.params.toList args.toList ds p := hA0
  rw [Try.params7] at hA hval
  obtain ⟨v0, vs0, d0, ds0, p0, q0, hargs, rfl, rfl, h0, r0⟩ := trodAll_cons hA
  obtain ⟨v1, vs1, d1, ds1, p1, q1, rfl, rfl, rfl, h1, r1⟩ := trodAll_cons r0
  obtain ⟨rfl, rfl, rfl⟩ := trodAll_nil r1
  obtain rfl : args = #[v0, v1] := by cases args; simp_all
  obtain ⟨rfl, rfl⟩ := trodVars_none hV
  have k0 := h0
  have lt0 : ∀ x ∈ p0, x.block < W.heap.size := by obtain ⟨m, hm⟩ := k0; exact DataW.trod_lt m _ _ _ hm
  obtain ⟨A0, len0, cap0, z0, rfl, w0⟩ := open_poset Try.underlying24 rfl (by kernel_rfl) (by kernel_rfl) Try.underlying22 Try.underlying3 (by kernel_rfl) (hval 0 24 v0 rfl rfl) h0
  have k1 := h1
  have lt1 : ∀ x ∈ p1, x.block < W.heap.size := by obtain ⟨m, hm⟩ := k1; exact DataW.trod_lt m _ _ _ hm
  obtain ⟨A1, len1, cap1, rfl⟩ := okWide_slice Try.underlying22 (hval 1 22 v1 rfl rfl)
  obtain ⟨z1, w1⟩ : ∃ zs, IsRow .i64 W A1 len1 cap1 zs := by
    obtain ⟨fuel, hf⟩ := h1
    obtain ⟨a, l, c, zs, e, hz⟩ := row_of Try.underlying22 Try.underlying3 (by kernel_rfl) (by simpa [Value.cells] using hf)
    injection e with e1 e2 e3
    subst e1 e2 e3
    exact ⟨zs, hz⟩
  obtain ⟨l0, rfl, hr0, hm0, hw0, hc0⟩ := ReadsInt.ofRowC w0
  obtain ⟨l1, rfl, hr1, hm1, hw1, hc1⟩ := ReadsInt.ofRowC w1
  clear hA0 hval0 hsz0
  obtain ⟨k, hp⟩ := Pure.FnExactFromLayers l0 l1 hm0 hw0 hm1 hw1
  refine (L.laws_FnExactFromLayers.calls k _ _ l0 _ _ l1 true W (Kd.C_of_reads (d := (0 : Int)) (h1 := fun _ => rfl) hr0) hc0 (Kd.C_of_reads (d := (0 : Int)) (h1 := fun _ => rfl) hr1) hc1 hp).mono fun e W' ⟨he, hd⟩ => ?_
  have bel : Below W.heap.size W W' := hd
  subst he
  exact ⟨_, rfl, _, _, _, [], _, [], hW', trodAll_mk1 (shut_bool Try.underlying4 _), (trodAll_cons_mk (Below.trod laidOut (by kernel_rfl) (of_decide_eq_true (by kernel_rfl)) k0 bel lt0) (trodAll_cons_mk (Below.trod laidOut (by kernel_rfl) (of_decide_eq_true (by kernel_rfl)) k1 bel lt1) trodAll_mk0)), rfl, bel.frame _, fun h => by cases h⟩
theorem over : Rows.fnExactFromLayersRow.holds Try.pinned (OpenSpec.ofChange Rows.fnExactFromLayersSpec) :=
  OpenClaim.holds_of_wide 7 Try.f7 rfl rfl rfl rfl rfl rfl rfl ⟨rfl, rfl, rfl, rfl, rfl⟩ rfl rfl rfl rfl rfl (by kernel_rfl) Try.func7 (by kernel_rfl)
    (of_decide_eq_true (by kernel_rfl)) (by unfold Func.isWrapper; first | (rw [if_pos (by decide +kernel)]; kernel_rfl) | (rw [if_neg (by decide +kernel)]; exact ⟨rfl, rfl⟩))
    (fun os started H enc _ => lifted os started H enc)
theorem proved : Rows.FnExactFromLayersSaid := over
end Go.Proofs.Ytioibkdjcmkcpaa.fnExactFromLayers
namespace Go.Proofs.Ytioibkdjcmkcpaa
theorem fnExactFromLayers_holds : Rows.FnExactFromLayersSaid := fnExactFromLayers.proved
end Go.Proofs.Ytioibkdjcmkcpaa
end
