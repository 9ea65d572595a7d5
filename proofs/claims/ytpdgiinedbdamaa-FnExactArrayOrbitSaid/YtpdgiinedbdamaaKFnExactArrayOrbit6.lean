/- Laws about the given program: the law FnExactArrayOrbit answers true for every input that its row lets in; no condition is added to the given statement. Contracts of the Go functions that it reaches, and the plain proof over lists. -/
import Derived.Below
import Derived.ChangeOld
import Derived.Lib.SmallJoins
import Derived.OpenShut
import Derived.ProofKit
import Derived.ShutString
import Derived.SizedLaws
import Derived.Test.YtpdgiinedbdamaaRows
import Derived.WalkKit
import Derived.Test.YtpdgiinedbdamaaWFnExactArrayOrbit0
import Derived.Test.YtpdgiinedbdamaaKFnExactArrayOrbit0
import Derived.Test.YtpdgiinedbdamaaKFnExactArrayOrbit1
import Derived.Test.YtpdgiinedbdamaaKFnExactArrayOrbit2
import Derived.Test.YtpdgiinedbdamaaKFnExactArrayOrbit3
import Derived.Test.YtpdgiinedbdamaaKFnExactArrayOrbit4
import Derived.Test.YtpdgiinedbdamaaKFnExactArrayOrbit5
section
namespace Go.Proofs.Ytpdgiinedbdamaa.M
open Go.RowKit Go.Proofs.YtpdgiinedbdamaaW.PrintWords Go.Proofs.YtpdgiinedbdamaaW.PrintLast Go.Proofs.YtpdgiinedbdamaaW.PrintMore Go.Proofs.Ytpdgiinedbdamaa.L
set_option linter.unusedVariables false
def riseAt (p : List Nat) (x : List Int) (i : Nat) : Bool := (List.range i).all fun j => !((less p i).testBit j) || decide (x.getD j 0 ≤ x.getD i 0)
def arrB (p : List Nat) (x : List Int) (b : Int) : Bool := x.all (inB · 0 b) && (List.range' 0 p.length).all (riseAt p x)
structure Arr (p y : List Nat) (b : Nat) : Prop where
  len : y.length = p.length
  hi : ∀ i, y.getD i 0 ≤ b
  up : ∀ i j, (less p i).testBit j = true → y.getD j 0 ≤ y.getD i 0
theorem toI_of_all {x : List Int} {b : Int} (h : x.all (inB · 0 b) = true) : x = toI (x.map Int.toNat) := by
  simp only [List.all_eq_true, inB_iff] at h
  simp only [toI, List.map_map]
  conv => lhs; rw [← List.map_id x]
  apply List.map_congr_left
  intro a ha
  have := h a ha
  simp; omega
theorem toI_getD (y : List Nat) (i : Nat) : (toI y).getD i 0 = ((y.getD i 0 : Nat) : Int) := by
  have := rd_toI y i
  simpa [rd] using this
theorem getD_mem {y : List Nat} {i : Nat} (h : i < y.length) : y.getD i 0 ∈ y := by
  rw [List.getD_eq_getElem?_getD, List.getElem?_eq_getElem h]; exact List.getElem_mem h
theorem arrB_of {p : List Nat} {x : List Int} {b : Nat} (g : Good p) (hl : x.length = p.length) (h : arrB p x (b : Int) = true) : ∃ y, x = toI y ∧ Arr p y b := by
  simp only [arrB, Bool.and_eq_true] at h
  have e := toI_of_all h.1
  refine ⟨x.map Int.toNat, e, by simpa using hl, fun i => ?_, fun i j hj => ?_⟩
  · have h1 := h.1
    simp only [List.all_eq_true, inB_iff] at h1
    by_cases hi : i < (x.map Int.toNat).length
    · obtain ⟨a, ha, e2⟩ := List.mem_map.mp (getD_mem hi)
      have := h1 a ha
      omega
    · rw [List.getD_eq_getElem?_getD, List.getElem?_eq_none (by omega)]; simp
  · have hb := g.bit hj
    have h2 := h.2
    simp only [List.all_eq_true, List.mem_range'_1, riseAt, List.mem_range, Bool.or_eq_true, Bool.not_eq_true', decide_eq_true_eq] at h2
    rcases h2 i ⟨by omega, by omega⟩ j hb.1 with h3 | h3
    · rw [hj] at h3; cases h3
    · rw [e, toI_getD, toI_getD] at h3; omega
def arrayB (l x : List Int) (b : Int) : Bool := goodB l && inB b 0 20 && decide (x.length = l.length) && arrB (l.map Int.toNat) x b
theorem arrayB_of {l x : List Int} {b : Int} (h : arrayB l x b = true) : ∃ (p y : List Nat) (c : Nat), l = toI p ∧ x = toI y ∧ b = (c : Int) ∧ Good p ∧ c ≤ 20 ∧ Arr p y c := by
  simp only [arrayB, Bool.and_eq_true, decide_eq_true_eq, inB_iff] at h
  obtain ⟨⟨⟨h1, h2⟩, h3⟩, h4⟩ := h
  obtain ⟨p, rfl, g⟩ := goodB_of h1
  obtain ⟨c, rfl⟩ : ∃ c : Nat, b = (c : Int) := ⟨b.toNat, by omega⟩
  rw [toNat_toI] at h4
  obtain ⟨y, rfl, ha⟩ := arrB_of g (by simpa using h3) h4
  exact ⟨p, y, c, rfl, rfl, rfl, g, by omega, ha⟩
theorem pcBound_eq (b : Int) : spec_pcBound.f b = some (inB b 0 20) := by simp [spec_pcBound.f, l1In_eq]
theorem isHigh_ev (l : List Int) (b : Int) : Ev (fun k => impl_isHigh.f k l b) (goodB l && inB b 0 20) := by
  refine Ev.bind (isPoset_ev l) (ev_ite (fun e => ?_) (fun e => ?_))
  · rw [e, Bool.true_and]; exact ev_call (within_eq _ _ _) (Ev.now _)
  · rw [Bool.eq_false_iff.mpr e, Bool.false_and]; exact Ev.now _
theorem pcRises_l1 {p : List Nat} (g : Good p) (x : List Int) (hx : x.length = p.length) (i : Nat) (hi : i < p.length) (R : Bool) (hR : Ev (fun k => spec_pcRises.l0 k x (toI p) ((toI p).length : Int) ((i + 1 : Nat) : Int)) R) : ∀ (d j : Nat), j + d = i →
    Ev (fun k => spec_pcRises.l1 k x (i : Int) ((less p i : Nat) : Int) (j : Int) (toI p) ((toI p).length : Int) (i : Int)) ((List.range' j d).all (fun j => !((less p i).testBit j) || decide (x.getD j 0 ≤ x.getD i 0)) && R)
  | 0, j, h => by
    refine Ev.step (fun _ => spec_pcRises.l1.eq_2 ..) (ev_neg (by omega) ?_)
    rw [wrap_succ (by have := g.le; omega)]; simpa using hR
  | d + 1, j, h => by
    have gl := g.le
    have ih := pcRises_l1 g x hx i hi R hR d (j + 1) (by omega)
    refine Ev.step (fun _ => spec_pcRises.l1.eq_2 ..) (ev_pos (by omega) (ev_call (poIn_eq (by omega)) ?_))
    rw [wrap_succ (by omega), List.range'_succ, List.all_cons, rd_getD, rd_getD]
    refine ev_ite (fun e => ?_) (fun e => ?_)
    · rw [e, Bool.not_true, Bool.false_or]
      refine ev_pos (by omega) (ev_pos (by omega) (ev_pos (by omega) (ev_pos (by omega) (ev_ite (fun e => ?_) (fun e => ?_)))))
      · rw [decide_eq_false (by omega), Bool.false_and, Bool.false_and]; exact Ev.now _
      · rw [decide_eq_true (by omega), Bool.true_and]; exact ih
    · rw [Bool.eq_false_iff.mpr e, Bool.not_false, Bool.true_or, Bool.true_and]; exact ih
theorem pcRises_l0 {p : List Nat} (g : Good p) (x : List Int) (hx : x.length = p.length) : ∀ (d i : Nat), i + d = p.length →
    Ev (fun k => spec_pcRises.l0 k x (toI p) ((toI p).length : Int) (i : Int)) ((List.range' i d).all (riseAt p x))
  | 0, i, h => Ev.step (fun _ => spec_pcRises.l0.eq_2 ..) (ev_neg (by rw [toI_len]; omega) (Ev.now _))
  | d + 1, i, h => by
    refine Ev.step (fun _ => spec_pcRises.l0.eq_2 ..) (ev_pos (by rw [toI_len]; omega) (ev_pos (by omega) (ev_pos (by rw [toI_len]; omega) ?_)))
    rw [rd_less, List.range'_succ, List.all_cons]
    have := pcRises_l1 g x hx i (by omega) _ (pcRises_l0 g x hx d (i + 1) (by omega)) i 0 (by omega)
    rw [← List.range_eq_range'] at this
    exact this
theorem pcRises_ev {p : List Nat} (g : Good p) (x : List Int) (b : Int) (hx : x.length = p.length) : Ev (fun k => spec_pcRises.f k (toI p) x b) (arrB p x b) := by
  refine Ev.bind (l1All_ev x 0 b (by have := g.le; omega)) ?_
  unfold arrB
  refine ev_ite (fun e => ?_) (fun e => ?_)
  · rw [e, Bool.true_and]; exact pcRises_l0 g x hx p.length 0 (by omega)
  · rw [Bool.eq_false_iff.mpr e, Bool.false_and]; exact Ev.now _
theorem areLabels_l1 {p : List Nat} (g : Good p) (x : List Int) (b : Nat) (hb : b ≤ 1000) (hx : x.length = p.length) (i : Nat) (hi : i < p.length) (ok : ∀ j, j < i → inB (x.getD j 0) 0 (b : Int) = true) (R : Bool)
    (hR : Ev (fun k => impl_Poset_areLabels.l0 k x (b : Int) 0 x (x.length : Int) ((i + 1 : Nat) : Int) (toI p)) R) : ∀ (d q : Nat), q + d = (items (less p i)).length →
    Ev (fun k => impl_Poset_areLabels.l1 k x (b : Int) 0 (x.getD i 0) x (x.length : Int) (i : Int) (toI (items (less p i))) ((toI (items (less p i))).length : Int) (q : Int) (toI p)) (((items (less p i)).drop q).all (fun j => decide (x.getD j 0 ≤ x.getD i 0)) && R)
  | 0, q, h => by
    refine Ev.step (fun _ => impl_Poset_areLabels.l1.eq_2 ..) (ev_neg (by rw [toI_len]; omega) ?_)
    rw [List.drop_of_length_le (by omega), wrap_succ (by have := g.le; omega)]; simpa using hR
  | d + 1, q, h => by
    have hq : q < (items (less p i)).length := by omega
    have hm := items_get hq
    have hj := g.bit hm.2
    have gl := g.le
    have hl := items_len (less p i)
    have ok' := inB_iff.mp (ok _ hj.1)
    have ih := areLabels_l1 g x b hb hx i hi ok R hR d (q + 1) (by omega)
    refine Ev.step (fun _ => impl_Poset_areLabels.l1.eq_2 ..) ?_
    rw [rd_items hq, rd_getD, wrap_succ (by omega), Int.add_zero, wrap_id (by omega) (by omega), List.drop_eq_getElem_cons hq, List.all_cons]
    refine ev_pos (by rw [toI_len]; omega) (ev_pos (by omega) (ev_pos (by rw [toI_len]; omega) (ev_pos (by omega) (ev_pos (by omega) (ev_ite (fun e => ?_) (fun e => ?_))))))
    · rw [decide_eq_false (by omega), Bool.false_and, Bool.false_and]; exact Ev.now _
    · rw [decide_eq_true (by omega), Bool.true_and]; exact ih
theorem areLabels_l0 {p : List Nat} (g : Good p) (x : List Int) (b : Nat) (hb : b ≤ 1000) (hx : x.length = p.length) : ∀ (d i : Nat), i + d = p.length → (∀ j, j < i → inB (x.getD j 0) 0 (b : Int) = true) →
    Ev (fun k => impl_Poset_areLabels.l0 k x (b : Int) 0 x (x.length : Int) (i : Int) (toI p)) ((List.range' i d).all (fun i => inB (x.getD i 0) 0 (b : Int) && riseAt p x i))
  | 0, i, h, ok => Ev.step (fun _ => impl_Poset_areLabels.l0.eq_2 ..) (ev_neg (by omega) (Ev.now _))
  | d + 1, i, h, ok => by
    have gl := g.le
    refine Ev.step (fun _ => impl_Poset_areLabels.l0.eq_2 ..) (ev_pos (by omega) (ev_pos (by omega) (ev_pos (by omega) (ev_call (within_eq _ _ _) ?_))))
    rw [rd_getD, List.range'_succ, List.all_cons]
    refine ev_ite (fun e => ?_) (fun e => ?_)
    · rw [e, Bool.true_and]
      refine ev_pos (by rw [toI_len]; omega) ?_
      rw [rd_less]
      refine Ev.bind (items_ev (g.lt63 i)) ?_
      have hn := areLabels_l0 g x b hb hx d (i + 1) (by omega) (fun j hj => by
        by_cases hji : j = i
        · subst hji; exact e
        · exact ok j (by omega))
      have := areLabels_l1 g x b hb hx i (by omega) ok _ hn (items (less p i)).length 0 (by omega)
      rw [List.drop_zero, items_all (g.lt i (by omega)) (by omega)] at this
      exact this
    · rw [Bool.eq_false_iff.mpr e, Bool.false_and, Bool.false_and]; exact Ev.now _
theorem areLabels_ev {p : List Nat} (g : Good p) (x : List Int) (b : Nat) (hb : b ≤ 1000) (hx : x.length = p.length) : Ev (fun k => impl_Poset_areLabels.f k (toI p) x (b : Int) 0) (arrB p x (b : Int)) := by
  refine ev_call (n_eq _) (ev_pos (by rw [toI_len]; omega) ?_)
  have h := areLabels_l0 g x b hb hx p.length 0 (by omega) (fun j hj => by omega)
  have e : (List.range' 0 p.length).all (fun i => inB (x.getD i 0) 0 (b : Int) && riseAt p x i) = arrB p x (b : Int) := by
    unfold arrB
    rw [Bool.eq_iff_iff]
    simp only [Bool.and_eq_true, List.all_eq_true, List.mem_range'_1]
    constructor
    · intro h2
      refine ⟨fun a ha => ?_, fun i hi => (h2 i hi).2⟩
      obtain ⟨i, hi, rfl⟩ := List.mem_iff_getElem.mp ha
      have := (h2 i ⟨by omega, by omega⟩).1
      simpa [List.getD_eq_getElem?_getD, hi] using this
    · rintro ⟨h1, h2⟩ i hi
      refine ⟨h1 _ ?_, h2 i hi⟩
      have hi' : i < x.length := by omega
      rw [List.getD_eq_getElem?_getD, List.getElem?_eq_getElem hi']; exact List.getElem_mem hi'
  rw [← e]; exact h
theorem isArray_ev (l x : List Int) (b : Int) : Ev (fun k => impl_isArray.f k l x b) (arrayB l x b) := by
  refine Ev.bind (isHigh_ev l b) ?_
  unfold arrayB
  refine ev_ite (fun e => ?_) (fun e => ?_)
  · rw [e, Bool.true_and]
    simp only [Bool.and_eq_true, inB_iff] at e
    obtain ⟨p, rfl, g⟩ := goodB_of e.1
    obtain ⟨c, rfl⟩ : ∃ c : Nat, b = (c : Int) := ⟨b.toNat, by omega⟩
    rw [toNat_toI, toI_len]
    by_cases hx : x.length = p.length
    · rw [decide_eq_true hx, Bool.true_and]
      exact Ev.bind (areLabels_ev g x c (by omega) hx) (Ev.now _)
    · rw [decide_eq_false hx, Bool.false_and]
      exact Ev.bind (ev_call (n_eq _) (ev_neg (by rw [toI_len]; omega) (Ev.now false))) (Ev.now _)
  · rw [Bool.eq_false_iff.mpr e, Bool.false_and, Bool.false_and]; exact Ev.now _
theorem pcIs_ev (l x : List Int) (b : Int) : Ev (fun k => spec_pcIs.f k l x b) (arrayB l x b) := by
  refine Ev.bind (poGood_ev l) ?_
  unfold arrayB
  refine ev_ite (fun e => ?_) (fun e => ?_)
  · obtain ⟨p, rfl, g⟩ := goodB_of e
    rw [e, Bool.true_and, toNat_toI, toI_len]
    refine ev_call (pcBound_eq b) (ev_ite (fun e => ?_) (fun e => ?_))
    · rw [e, Bool.true_and]
      refine ev_ite (fun e => ?_) (fun e => ?_)
      · rw [decide_eq_true (by omega), Bool.true_and]
        exact Ev.bind (pcRises_ev g x b (by omega)) (Ev.now _)
      · rw [decide_eq_false (by omega), Bool.false_and]; exact Ev.now _
    · rw [Bool.eq_false_iff.mpr e, Bool.false_and, Bool.false_and]; exact Ev.now _
  · rw [Bool.eq_false_iff.mpr e]; simpa using Ev.now false
end Go.Proofs.Ytpdgiinedbdamaa.M
end
section
namespace Go.Proofs.Ytpdgiinedbdamaa.M
open Go.RowKit Go.Proofs.YtpdgiinedbdamaaW.PrintWords Go.Proofs.YtpdgiinedbdamaaW.PrintLast Go.Proofs.YtpdgiinedbdamaaW.PrintMore Go.Proofs.Ytpdgiinedbdamaa.L
set_option linter.unusedVariables false
def lowN (p y : List Nat) (e : Nat) : Nat := foldBits p.length (less p e) (fun o j => max o (y.getD j 0)) 0
def highN (p y : List Nat) (b e : Nat) : Nat := (List.range' 0 p.length).foldl (fun o i => if (less p i).testBit e = true then min o (y.getD i 0) else o) b
theorem mx_nat (a b : Nat) : mx (a : Int) (b : Int) = ((max a b : Nat) : Int) := by unfold mx; split <;> omega
theorem mn_nat (a b : Nat) : mn (a : Int) (b : Int) = ((min a b : Nat) : Int) := by unfold mn; split <;> omega
theorem l1Most_nat (a b : Nat) : spec_l1Most.f (a : Int) (b : Int) = some ((max a b : Nat) : Int) := by unfold spec_l1Most.f; split <;> (congr 1; omega)
theorem l1Least_nat (a b : Nat) : spec_l1Least.f (a : Int) (b : Int) = some ((min a b : Nat) : Int) := by unfold spec_l1Least.f; split <;> (congr 1; omega)
theorem pcRange_l0 {p y : List Nat} (g : Good p) (hy : y.length = p.length) (e : Nat) (he : e < p.length) : ∀ (d i lo hi : Nat), i + d = p.length →
    Ev (fun k => spec_pcRange.l0 k (toI y) (e : Int) (lo : Int) (hi : Int) (p.length : Int) (i : Int) (toI p))
      ((((List.range' i d).foldl (fun o j => if (less p e).testBit j = true then max o (y.getD j 0) else o) lo : Nat) : Int), (((List.range' i d).foldl (fun o i => if (less p i).testBit e = true then min o (y.getD i 0) else o) hi : Nat) : Int))
  | 0, i, lo, hi, h => Ev.step (fun _ => spec_pcRange.l0.eq_2 ..) (ev_neg (by omega) (Ev.now _))
  | d + 1, i, lo, hi, h => by
    have gl := g.le
    have key : ∀ lo' : Nat, Ev (fun k => spec_pcRange.j1 k (toI y) (e : Int) (lo' : Int) (hi : Int) (i : Int) (p.length : Int) (i : Int) (toI p))
        ((((List.range' (i + 1) d).foldl (fun o j => if (less p e).testBit j = true then max o (y.getD j 0) else o) lo' : Nat) : Int), (((List.range' i (d + 1)).foldl (fun o i => if (less p i).testBit e = true then min o (y.getD i 0) else o) hi : Nat) : Int)) := by
      intro lo'
      refine Ev.step (fun _ => spec_pcRange.j1.eq_2 ..) (ev_pos (by omega) (ev_pos (by rw [toI_len]; omega) ?_))
      rw [rd_less]
      refine ev_call (poIn_eq (by omega)) ?_
      rw [List.range'_succ, List.foldl_cons, wrap_succ (by omega)]
      refine ev_ite (fun e1 => ?_) (fun e1 => ?_)
      · rw [if_pos e1, rd_toI]
        exact ev_pos (by rw [toI_len]; omega) (ev_call (l1Least_nat _ _) (pcRange_l0 g hy e he d (i + 1) lo' _ (by omega)))
      · rw [if_neg e1]; exact pcRange_l0 g hy e he d (i + 1) lo' _ (by omega)
    refine Ev.step (fun _ => spec_pcRange.l0.eq_2 ..) (ev_pos (by omega) (ev_pos (by omega) (ev_pos (by rw [toI_len]; omega) ?_)))
    rw [rd_less]
    refine ev_call (poIn_eq (by omega)) ?_
    rw [show (List.range' i (d + 1)).foldl (fun o j => if (less p e).testBit j = true then max o (y.getD j 0) else o) lo = (List.range' (i + 1) d).foldl (fun o j => if (less p e).testBit j = true then max o (y.getD j 0) else o) (if (less p e).testBit i = true then max lo (y.getD i 0) else lo) by rw [List.range'_succ, List.foldl_cons]]
    refine ev_ite (fun e1 => ?_) (fun e1 => ?_)
    · rw [if_pos e1, rd_toI]
      exact ev_pos (by omega) (ev_pos (by rw [toI_len]; omega) (ev_call (l1Most_nat _ _) (key _)))
    · rw [if_neg e1]; exact key lo
theorem pcRange_ev {p y : List Nat} (g : Good p) (hy : y.length = p.length) (b e : Nat) (he : e < p.length) : Ev (fun k => spec_pcRange.f k (toI p) (toI y) (b : Int) (e : Int)) (((lowN p y e : Nat) : Int), ((highN p y b e : Nat) : Int)) := by
  have h := pcRange_l0 g hy e he p.length 0 0 b (by omega)
  unfold spec_pcRange.f lowN highN foldBits
  rw [toI_len, List.range_eq_range']; exact h
theorem reach_l1 {p y : List Nat} (g : Good p) (hy : y.length = p.length) (e lo : Nat) (he : e < p.length) : ∀ (d i hi : Nat), i + d = p.length →
    Ev (fun k => impl_Poset_reach.l1 k (toI y) (e : Int) (lo : Int) (hi : Int) (p.length : Int) (i : Int) (toI p)) ((lo : Int), (((List.range' i d).foldl (fun o i => if (less p i).testBit e = true then min o (y.getD i 0) else o) hi : Nat) : Int))
  | 0, i, hi, h => Ev.step (fun _ => impl_Poset_reach.l1.eq_2 ..) (ev_neg (by omega) (Ev.now _))
  | d + 1, i, hi, h => by
    have gl := g.le
    refine Ev.step (fun _ => impl_Poset_reach.l1.eq_2 ..) (ev_pos (by omega) (ev_pos (by omega) (ev_pos (by rw [toI_len]; omega) ?_)))
    rw [rd_less]
    refine ev_call (has_eq (g.lt63 _) (by omega)) ?_
    rw [List.range'_succ, List.foldl_cons, wrap_succ (by omega)]
    refine ev_ite (fun e1 => ?_) (fun e1 => ?_)
    · rw [if_pos e1, rd_toI, mn_nat]
      exact ev_pos (by rw [toI_len]; omega) (reach_l1 g hy e lo he d (i + 1) _ (by omega))
    · rw [if_neg e1]; exact reach_l1 g hy e lo he d (i + 1) hi (by omega)
theorem reach_l0 {p y : List Nat} (g : Good p) (hy : y.length = p.length) (e b : Nat) (he : e < p.length) : ∀ (d q lo : Nat), q + d = (items (less p e)).length →
    Ev (fun k => impl_Poset_reach.l0 k (toI y) (e : Int) (lo : Int) (b : Int) (toI (items (less p e))) ((toI (items (less p e))).length : Int) (q : Int) (toI p)) (((((items (less p e)).drop q).foldl (fun o j => max o (y.getD j 0)) lo : Nat) : Int), ((highN p y b e : Nat) : Int))
  | 0, q, lo, h => by
    refine Ev.step (fun _ => impl_Poset_reach.l0.eq_2 ..) (ev_neg (by rw [toI_len]; omega) (ev_call (n_eq _) ?_))
    rw [List.drop_of_length_le (by omega), toI_len]
    exact reach_l1 g hy e lo he p.length 0 b (by omega)
  | d + 1, q, lo, h => by
    have hq : q < (items (less p e)).length := by omega
    have hm := items_get hq
    have hj := g.bit hm.2
    have gl := g.le
    have hl := items_len (less p e)
    refine Ev.step (fun _ => impl_Poset_reach.l0.eq_2 ..) ?_
    rw [rd_items hq, rd_toI, mx_nat, wrap_succ (by omega), List.drop_eq_getElem_cons hq, List.foldl_cons]
    exact ev_pos (by rw [toI_len]; omega) (ev_pos (by omega) (ev_pos (by rw [toI_len]; omega) (ev_pos (by omega) (ev_pos (by rw [toI_len]; omega) (reach_l0 g hy e b he d (q + 1) _ (by omega))))))
theorem reach_ev {p y : List Nat} (g : Good p) (hy : y.length = p.length) (b e : Nat) (he : e < p.length) : Ev (fun k => impl_Poset_reach.f k (toI p) (toI y) (b : Int) (e : Int)) (((lowN p y e : Nat) : Int), ((highN p y b e : Nat) : Int)) := by
  have h := reach_l0 g hy e b he (items (less p e)).length 0 0 (by omega)
  rw [List.drop_zero, foldl_items_n _ _ (g.lt10 e) g.le] at h
  unfold impl_Poset_reach.f
  refine ev_pos (by omega) (ev_pos (by rw [toI_len]; omega) ?_)
  rw [rd_less]
  exact Ev.bind (items_ev (g.lt63 e)) h
end Go.Proofs.Ytpdgiinedbdamaa.M
end
section
namespace Go.Proofs.Ytpdgiinedbdamaa.M
open Go.RowKit Go.Proofs.YtpdgiinedbdamaaW.PrintWords Go.Proofs.YtpdgiinedbdamaaW.PrintLast Go.Proofs.YtpdgiinedbdamaaW.PrintMore Go.Proofs.Ytpdgiinedbdamaa.L
set_option linter.unusedVariables false
theorem l1Own_eq (l : List Int) (h : l.length < 17592186044416) : spec_l1Own.f l = some l := by
  unfold spec_l1Own.f; rw [Option.bind_some, if_pos (by simpa using h)]; rfl
theorem Clone_eq (l : List Int) (h : l.length < 17592186044416) : slices_Clone_int_int.f l = some l := by unfold slices_Clone_int_int.f; rw [if_pos h]
theorem numbered_l0 (n : Nat) (hn : n ≤ 1000) : ∀ (d i : Nat) (acc : List Nat), i + d = n → acc.length = i → Ev (fun k => impl_numbered.l0 k (toI acc) (n : Int) (i : Int)) (toI (acc ++ List.range' i d))
  | 0, i, acc, h, ha => by
    refine Ev.step (fun _ => impl_numbered.l0.eq_2 ..) (ev_neg (by omega) ?_)
    simpa using Ev.now _
  | d + 1, i, acc, h, ha => by
    refine Ev.step (fun _ => impl_numbered.l0.eq_2 ..) (ev_pos (by omega) (ev_pos (by rw [toI_len]; omega) ?_))
    rw [wrap_succ (by omega), ← toI_one, ← toI_app, List.range'_succ]
    have := numbered_l0 n hn d (i + 1) (acc ++ [i]) (by omega) (by simp [ha])
    simpa using this
theorem numbered_ev (n : Nat) (hn : n ≤ 1000) : Ev (fun k => impl_numbered.f k (n : Int)) (toI (List.range n)) := by
  have := numbered_l0 n hn n 0 [] (by omega) rfl
  rw [List.nil_append, ← List.range_eq_range'] at this; exact this
theorem reverse_l0 (l : List Int) (hl : l.length ≤ 1000000) : ∀ (d i j : Nat) (x : List Int), i + j + 1 = l.length → j + 1 ≤ i + d → (hx : x.length = l.length) →
    (∀ t (h : t < x.length), x[t] = if t < i ∨ j < t then l[l.length - 1 - t]'(by omega) else l[t]'(by omega)) → Ev (fun k => slices_Reverse_int_int.l0 k x (i : Int) (j : Int)) l.reverse
  | 0, i, j, x, h, hd, hx, ht => by
    refine Ev.step (fun _ => slices_Reverse_int_int.l0.eq_2 ..) (ev_neg (by omega) ?_)
    have e : x = l.reverse := by
      apply List.ext_getElem (by simpa using hx)
      intro t h1 h2
      rw [ht t h1, List.getElem_reverse]
      split
      · rfl
      · congr 1; omega
    rw [e]; exact Ev.now _
  | d + 1, i, j, x, h, hd, hx, ht => by
    by_cases hij : i < j
    · refine Ev.step (fun _ => slices_Reverse_int_int.l0.eq_2 ..) (ev_pos (by omega) (ev_pos (by omega) (ev_pos (by omega) (ev_pos (by omega) (ev_pos (by omega) ?_)))))
      have hi : i < x.length := by omega
      have hj : j < x.length := by omega
      rw [rd_get hi, rd_get hj, wrap_succ (by omega), wrap_id (x := (j : Int) - 1) (by omega) (by omega), show ((j : Int) - 1) = ((j - 1 : Nat) : Int) by omega, Int.toNat_natCast, Int.toNat_natCast]
      refine reverse_l0 l hl d (i + 1) (j - 1) _ (by omega) (by omega) (by simpa using hx) (fun t h1 => ?_)
      have h1' : t < x.length := by simpa using h1
      rw [List.getElem_set, List.getElem_set]
      by_cases c1 : j = t
      · subst c1
        rw [if_pos rfl, if_pos (by omega)]
        refine (ht i hi).trans ?_
        rw [if_neg (by omega)]
        congr 1; omega
      · rw [if_neg c1]
        by_cases c2 : i = t
        · subst c2
          rw [if_pos rfl, if_pos (by omega)]
          refine (ht j hj).trans ?_
          rw [if_neg (by omega)]
          congr 1; omega
        · rw [if_neg c2, ht t h1']
          by_cases c3 : t < i ∨ j < t
          · rw [if_pos c3, if_pos (by omega)]
          · rw [if_neg c3, if_neg (by omega)]
    · refine Ev.step (fun _ => slices_Reverse_int_int.l0.eq_2 ..) (ev_neg (by omega) ?_)
      have e : x = l.reverse := by
        apply List.ext_getElem (by simpa using hx)
        intro t h1 h2
        rw [ht t h1, List.getElem_reverse]
        split
        · rfl
        · congr 1; omega
      rw [e]; exact Ev.now _
theorem reverse_ev (l : List Int) (hl : l.length ≤ 1000000) : Ev (fun k => slices_Reverse_int_int.f k l) l.reverse := by
  unfold slices_Reverse_int_int.f
  cases hn : l with
  | nil => exact Ev.step (fun _ => slices_Reverse_int_int.l0.eq_2 ..) (ev_neg (by simp [wrap64]) (Ev.now _))
  | cons x t =>
    rw [← hn]
    have hp : 0 < l.length := by rw [hn]; simp
    rw [wrap_id (by omega) (by omega), show ((l.length : Int) - 1) = ((l.length - 1 : Nat) : Int) by omega]
    refine reverse_l0 l hl l.length 0 (l.length - 1) l (by omega) (by omega) rfl (fun t h => ?_)
    rw [if_neg (by omega)]
theorem toI_rev (p : List Nat) : (toI p).reverse = toI p.reverse := by simp [toI]
end Go.Proofs.Ytpdgiinedbdamaa.M
end
section
namespace Go.Proofs.Ytpdgiinedbdamaa.M
open Go.RowKit Go.Proofs.YtpdgiinedbdamaaW.PrintWords Go.Proofs.YtpdgiinedbdamaaW.PrintLast Go.Proofs.YtpdgiinedbdamaaW.PrintMore Go.Proofs.Ytpdgiinedbdamaa.L
set_option linter.unusedVariables false
theorem foldMax_le {s m : Nat} (f : Nat → Nat) : ∀ (n a : Nat), foldBits n s (fun o j => max o (f j)) a ≤ m ↔ (a ≤ m ∧ ∀ j, j < n → s.testBit j = true → f j ≤ m)
  | 0, a => by simp [foldBits]
  | n + 1, a => by
    rw [foldBits_succ]
    have ih := foldMax_le (s := s) (m := m) f n a
    split
    · rename_i hs
      rw [Nat.max_le, ih]
      constructor
      · rintro ⟨⟨h1, h2⟩, h3⟩
        refine ⟨h1, fun j hj hb => ?_⟩
        by_cases e : j = n
        · subst e; exact h3
        · exact h2 j (by omega) hb
      · rintro ⟨h1, h2⟩
        exact ⟨⟨h1, fun j hj hb => h2 j (by omega) hb⟩, h2 n (by omega) hs⟩
    · rename_i hs
      rw [ih]
      constructor
      · rintro ⟨h1, h2⟩
        refine ⟨h1, fun j hj hb => ?_⟩
        by_cases e : j = n
        · subst e; exact absurd hb hs
        · exact h2 j (by omega) hb
      · rintro ⟨h1, h2⟩
        exact ⟨h1, fun j hj hb => h2 j (by omega) hb⟩
theorem foldMin_le {m : Nat} (c : Nat → Bool) (f : Nat → Nat) : ∀ (l : List Nat) (a : Nat), m ≤ l.foldl (fun o i => if c i = true then min o (f i) else o) a ↔ (m ≤ a ∧ ∀ i, i ∈ l → c i = true → m ≤ f i)
  | [], a => by simp
  | x :: l, a => by
    rw [List.foldl_cons, foldMin_le c f l]
    by_cases h : c x = true
    · rw [if_pos h, Nat.le_min]
      simp only [List.mem_cons]
      constructor
      · rintro ⟨⟨h1, h2⟩, h3⟩
        refine ⟨h1, fun i hi hc => ?_⟩
        rcases hi with rfl | hi
        · exact h2
        · exact h3 i hi hc
      · rintro ⟨h1, h2⟩
        exact ⟨⟨h1, h2 x (.inl rfl) h⟩, fun i hi hc => h2 i (.inr hi) hc⟩
    · rw [if_neg h]
      simp only [List.mem_cons]
      constructor
      · rintro ⟨h1, h2⟩
        refine ⟨h1, fun i hi hc => ?_⟩
        rcases hi with rfl | hi
        · exact absurd hc h
        · exact h2 i hi hc
      · rintro ⟨h1, h2⟩
        exact ⟨h1, fun i hi hc => h2 i (.inr hi) hc⟩
theorem lowN_le {p y : List Nat} (g : Good p) {e m : Nat} : lowN p y e ≤ m ↔ ∀ j, (less p e).testBit j = true → y.getD j 0 ≤ m := by
  unfold lowN; rw [foldMax_le]
  constructor
  · rintro ⟨_, h⟩ j hb; exact h j (by have := g.bit hb; omega) hb
  · intro h; exact ⟨by omega, fun j _ hb => h j hb⟩
theorem le_highN {p y : List Nat} (g : Good p) {b e m : Nat} : m ≤ highN p y b e ↔ (m ≤ b ∧ ∀ i, (less p i).testBit e = true → m ≤ y.getD i 0) := by
  unfold highN; rw [foldMin_le (fun i => (less p i).testBit e)]
  constructor
  · rintro ⟨h1, h⟩; exact ⟨h1, fun i hb => h i (by have := g.bit hb; simp; omega) hb⟩
  · rintro ⟨h1, h⟩; exact ⟨h1, fun i _ hb => h i hb⟩
theorem low_le {p y : List Nat} {b : Nat} (g : Good p) (a : Arr p y b) (e : Nat) : lowN p y e ≤ y.getD e 0 := (lowN_le g).mpr fun j hb => a.up e j hb
theorem le_high {p y : List Nat} {b : Nat} (g : Good p) (a : Arr p y b) (e : Nat) : y.getD e 0 ≤ highN p y b e := (le_highN g).mpr ⟨a.hi e, fun i hb => a.up i e hb⟩
theorem high_le_b {p y : List Nat} (g : Good p) (b e : Nat) : highN p y b e ≤ b := ((le_highN g).mp (Nat.le_refl _)).1
def tgN (p : List Nat) (b : Nat) (y : List Nat) (e : Nat) : List Nat := y.set e (lowN p y e + highN p y b e - y.getD e 0)
theorem getD_set (y : List Nat) (e v i : Nat) : (y.set e v).getD i 0 = if i = e ∧ e < y.length then v else y.getD i 0 := by
  simp only [List.getD_eq_getElem?_getD, List.getElem?_set]
  by_cases h : e = i
  · subst h
    by_cases h2 : e < y.length
    · simp [h2]
    · simp [h2]
  · simp [h, Ne.symm h]
theorem tgN_len (p : List Nat) (b : Nat) (y : List Nat) (e : Nat) : (tgN p b y e).length = y.length := by simp [tgN]
theorem tgN_get (p : List Nat) (b : Nat) (y : List Nat) (e i : Nat) : (tgN p b y e).getD i 0 = if i = e ∧ e < y.length then lowN p y e + highN p y b e - y.getD e 0 else y.getD i 0 := getD_set ..
theorem Arr.tg {p y : List Nat} {b : Nat} (g : Good p) (a : Arr p y b) (e : Nat) : Arr p (tgN p b y e) b := by
  have h1 := low_le g a e
  have h2 := le_high g a e
  have h3 := high_le_b (y := y) g b e
  refine ⟨by rw [tgN_len]; exact a.len, fun i => ?_, fun i j hb => ?_⟩
  · rw [tgN_get]; split
    · omega
    · exact a.hi i
  · have hj := g.bit hb
    have hu := a.up i j hb
    rw [tgN_get, tgN_get]
    by_cases c1 : j = e ∧ e < y.length
    · rw [if_pos c1, if_neg (by omega)]
      have := ((le_highN (y := y) (b := b) g (e := e)).mp (Nat.le_refl _)).2 i (by rw [← c1.1]; exact hb)
      omega
    · rw [if_neg c1]
      by_cases c2 : i = e ∧ e < y.length
      · rw [if_pos c2]
        have := (lowN_le (y := y) g (e := e)).mp (Nat.le_refl _) j (by rw [← c2.1]; exact hb)
        omega
      · rw [if_neg c2]; exact hu
theorem tg_val {p y : List Nat} {b : Nat} (g : Good p) (a : Arr p y b) (hb : b ≤ 20) (e : Nat) : wrap64 (wrap64 (((lowN p y e : Nat) : Int) + ((highN p y b e : Nat) : Int)) - rd (toI y) (e : Int)) = ((lowN p y e + highN p y b e - y.getD e 0 : Nat) : Int) := by
  have h1 := low_le g a e
  have h2 := le_high g a e
  have h3 := high_le_b (y := y) g b e
  have h4 := a.hi e
  rw [rd_toI, wrap_id (x := ((lowN p y e : Nat) : Int) + ((highN p y b e : Nat) : Int)) (by omega) (by omega), wrap_id (by omega) (by omega)]; omega
theorem Arr.small {p y : List Nat} {b : Nat} (g : Good p) (a : Arr p y b) : y.length ≤ 10 := by rw [a.len]; exact g.le
theorem pcAt_ev {p y : List Nat} {b : Nat} (g : Good p) (a : Arr p y b) (hb : b ≤ 20) {e : Nat} (he : e < p.length) : Ev (fun k => spec_pcAt.f k (toI p) (toI y) (b : Int) (e : Int)) (toI (tgN p b y e)) := by
  have hl := a.small g
  refine Ev.bind (pcRange_ev g a.len b e he) (ev_call (l1Own_eq _ (by rw [toI_len]; omega)) (ev_pos (by omega) (ev_pos (by rw [toI_len, a.len]; omega) (ev_pos (by rw [toI_len, a.len]; omega) ?_))))
  simp only
  rw [tg_val g a hb, Int.toNat_natCast, toI_set]; exact Ev.now _
theorem turn_l0 {p : List Nat} {b : Nat} (g : Good p) (hb : b ≤ 20) (w : List Nat) (hw : ∀ e ∈ w, e < p.length) (hl : w.length ≤ 1000000) : ∀ (d i : Nat) (y : List Nat), i + d = w.length → Arr p y b →
    Ev (fun k => impl_Poset_turn.l0 k (toI y) (b : Int) (toI w) ((toI w).length : Int) (i : Int) (toI p)) (toI ((w.drop i).foldl (tgN p b) y))
  | 0, i, y, h, a => by
    refine Ev.step (fun _ => impl_Poset_turn.l0.eq_2 ..) (ev_neg (by rw [toI_len]; omega) ?_)
    rw [List.drop_of_length_le (by omega)]; exact Ev.now _
  | d + 1, i, y, h, a => by
    have hi : i < w.length := by omega
    have he := hw _ (List.getElem_mem hi)
    have e1 : rd (toI w) (i : Int) = ((w[i] : Nat) : Int) := by rw [rd_toI]; simp [List.getD_eq_getElem?_getD, hi]
    refine Ev.step (fun _ => impl_Poset_turn.l0.eq_2 ..) ?_
    rw [e1]
    refine ev_pos (by rw [toI_len]; omega) (ev_pos (by omega) (ev_pos (by rw [toI_len]; omega) (Ev.bind (reach_ev g a.len b _ he) (ev_pos (by omega) (ev_pos (by rw [toI_len, a.len]; omega) ?_)))))
    simp only
    rw [tg_val g a hb, Int.toNat_natCast, toI_set, wrap_succ (by omega), List.drop_eq_getElem_cons hi, List.foldl_cons]
    exact turn_l0 g hb w hw hl d (i + 1) _ (by omega) (a.tg g _)
theorem turn_ev {p y : List Nat} {b : Nat} (g : Good p) (a : Arr p y b) (hb : b ≤ 20) (w : List Nat) (hw : ∀ e ∈ w, e < p.length) (hl : w.length ≤ 1000000) : Ev (fun k => impl_Poset_turn.f k (toI p) (toI y) (b : Int) (toI w)) (toI (w.foldl (tgN p b) y)) := by
  have := turn_l0 g hb w hw hl w.length 0 y (by omega) a
  rw [List.drop_zero] at this; exact this
theorem Arr.fold {p : List Nat} {b : Nat} (g : Good p) : ∀ (w y : List Nat), Arr p y b → Arr p (w.foldl (tgN p b) y) b
  | [], _, a => a
  | e :: w, y, a => Arr.fold g w _ (a.tg g e)
theorem fold_len (p : List Nat) (b : Nat) : ∀ (w y : List Nat), (w.foldl (tgN p b) y).length = y.length
  | [], _ => rfl
  | e :: w, y => by rw [List.foldl_cons, fold_len p b w, tgN_len]
end Go.Proofs.Ytpdgiinedbdamaa.M
end
section
namespace Go.Proofs.Ytpdgiinedbdamaa.M
open Go.RowKit Go.Proofs.YtpdgiinedbdamaaW.PrintWords Go.Proofs.YtpdgiinedbdamaaW.PrintLast Go.Proofs.YtpdgiinedbdamaaW.PrintMore Go.Proofs.Ytpdgiinedbdamaa.L
set_option linter.unusedVariables false
def rowN (p : List Nat) (b : Nat) (y : List Nat) : List Nat := (List.range p.length).reverse.foldl (tgN p b) y
theorem Arr.row {p y : List Nat} {b : Nat} (g : Good p) (a : Arr p y b) : Arr p (rowN p b y) b := Arr.fold g _ _ a
theorem pcRow_l0 {p : List Nat} {b : Nat} (g : Good p) (hb : b ≤ 20) : ∀ (i : Nat) (y : List Nat), i ≤ p.length → Arr p y b → Ev (fun k => spec_pcRow.l0 k (b : Int) (toI y) ((i : Int) - 1) (toI p)) (toI ((List.range i).reverse.foldl (tgN p b) y))
  | 0, y, h, a => by
    refine Ev.step (fun _ => spec_pcRow.l0.eq_2 ..) (ev_neg (by omega) ?_)
    exact Ev.now _
  | i + 1, y, h, a => by
    refine Ev.step (fun _ => spec_pcRow.l0.eq_2 ..) (ev_pos (by omega) ?_)
    have gl := g.le
    rw [show (((i + 1 : Nat) : Int) - 1) = (i : Int) by omega, wrap_id (by omega) (by omega), List.range_succ, List.reverse_append, List.reverse_singleton, List.singleton_append, List.foldl_cons]
    exact Ev.bind (pcAt_ev g a hb (by omega)) (pcRow_l0 g hb i _ (by omega) (a.tg g i))
theorem pcRow_ev {p y : List Nat} {b : Nat} (g : Good p) (a : Arr p y b) (hb : b ≤ 20) : Ev (fun k => spec_pcRow.f k (toI p) (toI y) (b : Int)) (toI (rowN p b y)) := by
  have gl := g.le
  have hl := a.small g
  refine ev_call (l1Own_eq _ (by rw [toI_len]; omega)) ?_
  rw [toI_len, wrap_id (by omega) (by omega)]
  exact pcRow_l0 g hb p.length y (Nat.le_refl _) a
theorem rowN_len (p : List Nat) (b : Nat) (y : List Nat) : (rowN p b y).length = y.length := fold_len p b _ y
end Go.Proofs.Ytpdgiinedbdamaa.M
end
section
namespace Go.Proofs.Ytpdgiinedbdamaa.M
open Go.RowKit Go.Proofs.YtpdgiinedbdamaaW.PrintWords Go.Proofs.YtpdgiinedbdamaaW.PrintLast Go.Proofs.YtpdgiinedbdamaaW.PrintMore Go.Proofs.Ytpdgiinedbdamaa.L
theorem szIntS_eq (l : List Int) (h : l.length ≤ maxLen) : laws_szIntS.f l 1048576 = some (if 1048576 < l.length then -1 else 1048576 - (l.length : Int)) := by
  unfold maxLen at h
  unfold laws_szIntS.f
  rw [wrap_id (by omega) (by omega)]
  by_cases h2 : 1048576 < l.length
  · rw [if_pos (by omega), if_pos h2]
  · rw [if_neg (by omega), if_neg h2]
theorem szPoset_eq (l : List Int) (h : l.length ≤ maxLen) : laws_szPoset.f l 1048576 = some (if 1048576 < l.length then -1 else 1048576 - (l.length : Int)) := by
  unfold laws_szPoset.f
  rw [szIntS_eq l h, Option.bind_some]
  split
  · rfl
  · rw [if_neg (by omega)]
theorem toPoset_ev (l : List Int) (hl : l.length ≤ 35184372088832) : Ev (fun k => laws_toPoset.f k l) l := Ev.bind (toIntS_ev l hl) (Ev.now _)
theorem eqPoset_ev (a b : List Int) (hl : a.length ≤ 9223372036854775806) : Ev (fun k => laws_eqPoset.f k a b) (decide (a = b)) := by
  refine Ev.bind (eqIntS_ev a b hl) (ev_ite (fun e => ?_) (fun e => ?_))
  · rw [e]; exact Ev.now _
  · rw [Bool.eq_false_iff.mpr e]; exact Ev.now _
theorem eqPoset_refl (a : List Int) (hl : a.length ≤ 9223372036854775806) : Ev (fun k => laws_eqPoset.f k a a) true := by simpa using eqPoset_ev a a hl
theorem eqIntS_refl (a : List Int) (hl : a.length ≤ 9223372036854775806) : Ev (fun k => laws_eqIntS.f k a a) true := by simpa using eqIntS_ev a a hl
theorem markPoset_ev (l : List Int) (q : Nat) (hl : l.length ≤ 4611686018427387903) (hq : q ≤ 4611686018427387903) : Ev (fun k => laws_markPoset.f k l (q : Int)) (((q + l.length : Nat) : Int), marks q l.length) := Ev.bind (markIntS_ev l q hl hq) (Ev.now _)
end Go.Proofs.Ytpdgiinedbdamaa.M
end
section
namespace Go.Proofs.Ytpdgiinedbdamaa.M
open Go.RowKit Go.Proofs.YtpdgiinedbdamaaW.PrintWords Go.Proofs.YtpdgiinedbdamaaW.PrintLast Go.Proofs.YtpdgiinedbdamaaW.PrintMore Go.Proofs.Ytpdgiinedbdamaa.L
set_option linter.unusedVariables false
def RowsOk (r : List (List Int)) : Prop := r.length ≤ 100000 ∧ ∀ x ∈ r, x.length ≤ 100000
theorem rd_rows {r : List (List Int)} {i : Nat} (h : i < r.length) : rd_L1 r (i : Int) = r[i] := by unfold rd_L1; simp [List.getD_eq_getElem?_getD, h]
theorem eqIntSS_l0 (r : List (List Int)) (hr : RowsOk r) : ∀ (d i : Nat), i + d = r.length → Ev (fun k => laws_eqIntSS.l0 k r r (i : Int)) true
  | 0, i, h => Ev.step (fun _ => laws_eqIntSS.l0.eq_2 ..) (ev_neg (by omega) (Ev.now _))
  | d + 1, i, h => by
    have hi : i < r.length := by omega
    have hl := hr.1
    have hx := hr.2 _ (List.getElem_mem hi)
    refine Ev.step (fun _ => laws_eqIntSS.l0.eq_2 ..) (ev_pos (by omega) (ev_pos (by omega) (ev_pos (by omega) ?_)))
    rw [rd_rows hi, wrap_succ (by omega)]
    exact Ev.bind (eqIntS_refl _ (by omega)) (ev_pos rfl (eqIntSS_l0 r hr d (i + 1) (by omega)))
theorem eqIntSS_refl (r : List (List Int)) (hr : RowsOk r) : Ev (fun k => laws_eqIntSS.f k r r) true := ev_pos rfl (eqIntSS_l0 r hr r.length 0 (Nat.zero_add _))
def marksR : Nat → List (List Int) → List (List Int)
  | _, [] => []
  | s, l :: ls => marks s l.length :: marksR (s + l.length) ls
def lenR : List (List Int) → Nat
  | [] => 0
  | l :: ls => l.length + lenR ls
theorem lenR_le : ∀ (r : List (List Int)), (∀ x ∈ r, x.length ≤ 100000) → lenR r ≤ 100000 * r.length
  | [], _ => Nat.le_refl _
  | l :: ls, h => by
    have h1 := h l List.mem_cons_self
    have h2 := lenR_le ls fun x hx => h x (List.mem_cons_of_mem _ hx)
    rw [lenR, List.length_cons]
    omega
theorem getR {done rest : List (List Int)} {l : List Int} : rd_L1 (done ++ l :: rest) (done.length : Int) = l := by
  rw [rd_rows (by simp)]
  simp
theorem markSS_l0 : ∀ (rest done : List (List Int)) (s : Nat), (∀ x ∈ rest, x.length ≤ 100000) → done.length + rest.length ≤ 100000 → s + lenR rest ≤ 1000000000000 →
    Ev (fun k => laws_markIntSS.l0 k (done ++ rest) (s : Int) (done.length : Int)) (((s + lenR rest : Nat) : Int), done ++ marksR s rest)
  | [], done, s, h1, h2, h3 => by
    refine Ev.step (fun _ => laws_markIntSS.l0.eq_2 ..) (ev_neg (by rw [List.append_nil]; omega) ?_)
    rw [marksR, List.append_nil]
    exact Ev.now _
  | l :: rest, done, s, h1, h2, h3 => by
    have hl := h1 l List.mem_cons_self
    rw [List.length_cons] at h2
    rw [lenR] at h3 ⊢
    refine Ev.step (fun _ => laws_markIntSS.l0.eq_2 ..) (ev_pos (by rw [List.length_append, List.length_cons]; omega) (ev_pos (by omega) ?_))
    rw [getR, Int.toNat_natCast, wrap_succ (by omega)]
    refine Ev.bind (markIntS_ev l s (by omega) (by omega)) ?_
    have ih := markSS_l0 rest (done ++ [marks s l.length]) (s + l.length) (fun x hx => h1 x (List.mem_cons_of_mem _ hx)) (by rw [List.length_append, List.length_singleton]; omega) (by omega)
    rw [List.length_append, List.length_singleton, List.append_assoc, List.append_assoc, show s + l.length + lenR rest = s + (l.length + lenR rest) by omega] at ih
    have e : (done ++ l :: rest).set done.length (marks s l.length) = done ++ ([marks s l.length] ++ rest) := by simp
    show Ev (fun k => laws_markIntSS.l0 k ((done ++ l :: rest).set done.length (marks s l.length)) ((s + l.length : Nat) : Int) ((done.length + 1 : Nat) : Int)) _
    rw [e]
    exact ih
theorem heldSS_l0 : ∀ (rest done : List (List Int)) (s : Nat), (∀ x ∈ rest, x.length ≤ 100000) → done.length + rest.length ≤ 100000 → s + lenR rest ≤ 1000000000000 →
    Ev (fun k => laws_heldIntSS.l0 k (done ++ marksR s rest) (s : Int) (done.length : Int)) ((s + lenR rest : Nat) : Int)
  | [], done, s, h1, h2, h3 => by
    refine Ev.step (fun _ => laws_heldIntSS.l0.eq_2 ..) (ev_neg (by rw [marksR, List.append_nil]; omega) ?_)
    exact Ev.now _
  | l :: rest, done, s, h1, h2, h3 => by
    have hl := h1 l List.mem_cons_self
    rw [List.length_cons] at h2
    rw [lenR] at h3 ⊢
    rw [marksR]
    refine Ev.step (fun _ => laws_heldIntSS.l0.eq_2 ..) (ev_pos (by rw [List.length_append, List.length_cons]; omega) (ev_pos (by omega) ?_))
    rw [getR, wrap_succ (by omega)]
    refine Ev.bind (heldIntS_ev s l.length (by omega) (by omega)) (ev_neg (by omega) ?_)
    have ih := heldSS_l0 rest (done ++ [marks s l.length]) (s + l.length) (fun x hx => h1 x (List.mem_cons_of_mem _ hx)) (by rw [List.length_append, List.length_singleton]; omega) (by omega)
    rw [List.length_append, List.length_singleton, List.append_assoc, show s + l.length + lenR rest = s + (l.length + lenR rest) by omega] at ih
    exact ih
theorem markIntSS_ev (r : List (List Int)) (hr : RowsOk r) : ∃ (q : Int) (R : List (List Int)), Ev (fun k => laws_markIntSS.f k r 1) (q, R) ∧ Ev (fun k => laws_heldIntSS.f k R 1) q ∧ 0 ≤ q := by
  have h := lenR_le r hr.2
  have h1 := hr.1
  have m := markSS_l0 r [] 1 hr.2 (by rw [List.length_nil]; omega) (by omega)
  have e := heldSS_l0 r [] 1 hr.2 (by rw [List.length_nil]; omega) (by omega)
  exact ⟨_, _, m, e, by omega⟩
end Go.Proofs.Ytpdgiinedbdamaa.M
end
section
namespace Go.Proofs.Ytpdgiinedbdamaa.M
open Go.RowKit Go.Proofs.YtpdgiinedbdamaaW.PrintWords Go.Proofs.YtpdgiinedbdamaaW.PrintLast Go.Proofs.YtpdgiinedbdamaaW.PrintMore Go.Proofs.Ytpdgiinedbdamaa.L
set_option linter.unusedVariables false
theorem cons_dec {x y : Int} {a b : List Int} (e : x = y) : decide (x :: a = y :: b) = decide (a = b) :=
  decide_eq_decide.mpr (by rw [List.cons.injEq]; exact ⟨fun z => z.2, fun z => ⟨e, z⟩⟩)
theorem Equal_l0 (a b : List Int) (hl : a.length ≤ 1000000) (hab : a.length = b.length) : ∀ (d i : Nat), i + d = a.length → Ev (fun k => slices_Equal_int_int.l0 k a b (a.length : Int) (i : Int)) (decide (a.drop i = b.drop i))
  | 0, i, h => by
    refine Ev.step (fun _ => slices_Equal_int_int.l0.eq_2 ..) (ev_neg (by omega) ?_)
    rw [List.drop_of_length_le (by omega), List.drop_of_length_le (by omega)]
    exact Ev.now _
  | d + 1, i, h => by
    refine Ev.step (fun _ => slices_Equal_int_int.l0.eq_2 ..) (ev_pos (by omega) (ev_pos (by omega) (ev_pos (by omega) (ev_pos (by omega) ?_))))
    rw [wrap_succ (by omega), rd_get (by omega : i < a.length), rd_get (by omega : i < b.length)]
    rw [List.drop_eq_getElem_cons (by omega : i < a.length), List.drop_eq_getElem_cons (by omega : i < b.length)]
    refine ev_ite (fun e => ?_) (fun e => ?_)
    · rw [cons_dec e]
      exact Equal_l0 a b hl hab d (i + 1) (by omega)
    · rw [decide_eq_false (show ¬ (a[i] :: a.drop (i + 1) = b[i] :: b.drop (i + 1)) by rw [List.cons.injEq]; exact fun z => e z.1)]
      exact Ev.now _
theorem Equal_ev (a b : List Int) (hl : a.length ≤ 1000000) : Ev (fun k => slices_Equal_int_int.f k a b) (decide (a = b)) := by
  by_cases h : a.length = b.length
  · exact ev_pos (by omega) (Equal_l0 a b hl h a.length 0 (Nat.zero_add _))
  · rw [decide_eq_false (fun e => h (by rw [e]))]
    exact ev_neg (by omega) (Ev.now _)
theorem l1Same_l0 (a b : List Int) (hl : a.length ≤ 1000000) (hab : a.length = b.length) : ∀ (d i : Nat), i + d = a.length → Ev (fun k => spec_l1Same.l0 k a b (a.length : Int) (i : Int)) (decide (a.drop i = b.drop i))
  | 0, i, h => by
    refine Ev.step (fun _ => spec_l1Same.l0.eq_2 ..) (ev_neg (by omega) ?_)
    rw [List.drop_of_length_le (by omega), List.drop_of_length_le (by omega)]
    exact Ev.now _
  | d + 1, i, h => by
    refine Ev.step (fun _ => spec_l1Same.l0.eq_2 ..) (ev_pos (by omega) (ev_pos (by omega) (ev_pos (by omega) (ev_pos (by omega) ?_))))
    rw [wrap_succ (by omega), rd_get (by omega : i < a.length), rd_get (by omega : i < b.length)]
    rw [List.drop_eq_getElem_cons (by omega : i < a.length), List.drop_eq_getElem_cons (by omega : i < b.length)]
    refine ev_ite (fun e => ?_) (fun e => ?_)
    · rw [cons_dec e]
      exact l1Same_l0 a b hl hab d (i + 1) (by omega)
    · rw [decide_eq_false (show ¬ (a[i] :: a.drop (i + 1) = b[i] :: b.drop (i + 1)) by rw [List.cons.injEq]; exact fun z => e z.1)]
      exact Ev.now _
theorem l1Same_ev (a b : List Int) (hl : a.length ≤ 1000000) : Ev (fun k => spec_l1Same.f k a b) (decide (a = b)) := by
  by_cases h : a.length = b.length
  · exact ev_pos (by omega) (l1Same_l0 a b hl h a.length 0 (Nat.zero_add _))
  · rw [decide_eq_false (fun e => h (by rw [e]))]
    exact ev_neg (by omega) (Ev.now _)
theorem toI_dec (x y : List Nat) : decide (toI x = toI y) = decide (x = y) := decide_eq_decide.mpr ⟨toI_inj, fun e => by rw [e]⟩
def orbA (p : List Nat) (b : Nat) (x : List Nat) : Nat → List (List Int) → List Nat → List (List Int) × Bool
  | 0, out, y => if y = x then (out, true) else ([], false)
  | d + 1, out, y => if y = x then (out, true) else orbA p b x d (out ++ [toI y]) (rowN p b y)
theorem orbA_ok {p : List Nat} {b : Nat} {x : List Nat} (hp : p.length ≤ 1000) : ∀ (d : Nat) (out : List (List Int)) (y : List Nat), out.length + d = 1000 → y.length ≤ 1000 → (∀ z ∈ out, z.length ≤ 1000) → RowsOk (orbA p b x d out y).1
  | 0, out, y, h, hy, ho => by
    rw [orbA]; split
    · exact ⟨show out.length ≤ 100000 by omega, fun z hz => Nat.le_trans (ho z hz) (by omega)⟩
    · exact ⟨by simp, by simp⟩
  | d + 1, out, y, h, hy, ho => by
    rw [orbA]; split
    · exact ⟨show out.length ≤ 100000 by omega, fun z hz => Nat.le_trans (ho z hz) (by omega)⟩
    · refine orbA_ok hp d _ _ (by simp; omega) (by rw [rowN_len]; omega) (fun z hz => ?_)
      rw [List.mem_append, List.mem_singleton] at hz
      rcases hz with hz | rfl
      · exact ho z hz
      · rw [toI_len]; omega
theorem specOrb_l0 {p : List Nat} {b : Nat} (g : Good p) (hb : b ≤ 20) (x : List Nat) : ∀ (d : Nat) (out : List (List Int)) (y : List Nat), out.length + d = 1000 → Arr p y b →
    Ev (fun k => spec_ArrayOrbit.l0 k (toI x) (b : Int) out (toI y) (toI p)) (orbA p b x d out y)
  | 0, out, y, h, a => by
    have hs := a.small g
    refine Ev.step (fun _ => spec_ArrayOrbit.l0.eq_2 ..) (Ev.bind (l1Same_ev _ _ (by rw [toI_len]; omega)) ?_)
    rw [toI_dec, orbA]
    refine ev_ite (fun e => ?_) (fun e => ?_)
    · rw [if_pos (of_decide_eq_true e)]; exact Ev.now _
    · rw [if_neg (fun z => e (decide_eq_true z))]
      exact ev_pos (by omega) (Ev.now _)
  | d + 1, out, y, h, a => by
    have hs := a.small g
    refine Ev.step (fun _ => spec_ArrayOrbit.l0.eq_2 ..) (Ev.bind (l1Same_ev _ _ (by rw [toI_len]; omega)) ?_)
    rw [toI_dec, orbA]
    refine ev_ite (fun e => ?_) (fun e => ?_)
    · rw [if_pos (of_decide_eq_true e)]; exact Ev.now _
    · rw [if_neg (fun z => e (decide_eq_true z))]
      exact ev_neg (by omega) (ev_pos (by omega) (Ev.bind (pcRow_ev g a hb) (specOrb_l0 g hb x d _ _ (by simp; omega) (a.row g))))
theorem implOrb_turn {p : List Nat} {b : Nat} (g : Good p) (hb : b ≤ 20) {y : List Nat} (a : Arr p y b) : Ev (fun k => impl_Poset_turn.f k (toI p) (toI y) (b : Int) (toI (List.range p.length).reverse)) (toI (rowN p b y)) := by
  have gl := g.le
  exact turn_ev g a hb _ (by simp) (by simp; omega)
theorem implOrb_l0 {p : List Nat} {b : Nat} (g : Good p) (hb : b ≤ 20) (x : List Nat) : ∀ (d : Nat) (out : List (List Int)) (y : List Nat), out.length + d = 1000 → out ≠ [] → Arr p y b →
    Ev (fun k => impl_ArrayOrbit.l0 k (toI x) (b : Int) out (toI (List.range p.length).reverse) (toI y) (toI p)) (orbA p b x d out y)
  | 0, out, y, h, hn, a => by
    have hs := a.small g
    have : out.length ≠ 0 := fun e => hn (List.length_eq_zero_iff.mp e)
    refine Ev.step (fun _ => impl_ArrayOrbit.l0.eq_2 ..) (ev_neg (by omega) (Ev.bind (Equal_ev _ _ (by rw [toI_len]; omega)) (Ev.step (fun _ => impl_ArrayOrbit.j1.eq_2 ..) ?_)))
    rw [toI_dec, orbA]
    by_cases e : y = x
    · rw [decide_eq_true e, if_pos e]; exact ev_neg (by simp) (Ev.now _)
    · rw [decide_eq_false e, if_neg e]
      exact ev_pos rfl (ev_pos (by omega) (Ev.now _))
  | d + 1, out, y, h, hn, a => by
    have hs := a.small g
    have : out.length ≠ 0 := fun e => hn (List.length_eq_zero_iff.mp e)
    refine Ev.step (fun _ => impl_ArrayOrbit.l0.eq_2 ..) (ev_neg (by omega) (Ev.bind (Equal_ev _ _ (by rw [toI_len]; omega)) (Ev.step (fun _ => impl_ArrayOrbit.j1.eq_2 ..) ?_)))
    rw [toI_dec, orbA]
    by_cases e : y = x
    · rw [decide_eq_true e, if_pos e]; exact ev_neg (by simp) (Ev.now _)
    · rw [decide_eq_false e, if_neg e]
      exact ev_pos rfl (ev_neg (by omega) (ev_call (Clone_eq _ (by rw [toI_len]; omega)) (ev_pos (by omega) (Ev.bind (implOrb_turn g hb a) (implOrb_l0 g hb x d _ _ (by simp; omega) (by simp) (a.row g))))))
theorem agree_FnExactArrayOrbit (l x : List Int) (b : Int) (hl : l.length ≤ 1048576) (hx : x.length ≤ 1048576) : ∃ r : List (List Int) × Bool, RowsOk r.1 ∧ Ev (fun k => spec_ArrayOrbit.f k l x b) r ∧ Ev (fun k => impl_ArrayOrbit.f k l x b) r := by
  by_cases h : arrayB l x b = true
  · obtain ⟨p, y, c, rfl, rfl, rfl, g, hc, a⟩ := arrayB_of h
    have hs := a.small g
    have gl := g.le
    refine ⟨orbA p c y 999 [toI y] (rowN p c y), orbA_ok (by omega) _ _ _ (by simp) (by rw [rowN_len]; omega) (by simp; omega), ?_, ?_⟩
    · exact Ev.bind (pcIs_ev _ _ _) (ev_pos h (ev_call (l1Own_eq _ (by rw [toI_len]; omega)) (Ev.bind (pcRow_ev g a hc) (specOrb_l0 g hc y 999 _ _ (by simp) (a.row g)))))
    · refine Ev.bind (isArray_ev _ _ _) (ev_pos h (ev_call (n_eq _) ?_))
      rw [toI_len]
      have hb : Ev (fun k => impl_backwards.f k (toI (List.range p.length))) (toI (List.range p.length).reverse) := by
        refine ev_call (Clone_eq _ (by simp; omega)) (Ev.bind (reverse_ev _ (by simp; omega)) ?_)
        rw [toI_rev]; exact Ev.now _
      refine Ev.bind (numbered_ev p.length (by omega)) (Ev.bind hb (ev_call (Clone_eq _ (by rw [toI_len]; omega)) ?_))
      refine Ev.step (fun _ => impl_ArrayOrbit.l0.eq_2 ..) (ev_pos rfl (Ev.step (fun _ => impl_ArrayOrbit.j1.eq_2 ..) (ev_pos rfl (ev_neg (by simp) (ev_call (Clone_eq _ (by rw [toI_len]; omega)) (ev_pos (by simp) (Ev.bind (implOrb_turn g hc a) ?_)))))))
      exact implOrb_l0 g hc y 999 [toI y] _ (by simp) (by simp) (a.row g)
  · exact ⟨([], false), ⟨by simp, by simp⟩, Ev.bind (pcIs_ev _ _ _) (ev_neg h (Ev.now _)), Ev.bind (isArray_ev _ _ _) (ev_neg h (Ev.now _))⟩
end Go.Proofs.Ytpdgiinedbdamaa.M
end
section
namespace Go.Proofs.Ytpdgiinedbdamaa.Pure
open Go.RowKit Go.Proofs.YtpdgiinedbdamaaW.PrintWords Go.Proofs.YtpdgiinedbdamaaW.PrintLast Go.Proofs.YtpdgiinedbdamaaW.PrintMore Go.Proofs.Ytpdgiinedbdamaa.L Go.Proofs.Ytpdgiinedbdamaa.M
theorem FnExactArrayOrbit : laws_FnExactArrayOrbit.Pure2 := by
  intro l0 l1 a2 hm0 hw0 hm1 hw1 w2
  refine Ev.rounds ?_
  by_cases b1 : (l1.length : Int) > 1048576
  · exact ev_pos b1 (Ev.now _)
  refine ev_neg b1 ?_
  refine ev_call (szPoset_eq l0 hm0) ?_
  by_cases b0 : 1048576 < l0.length
  · rw [if_pos b0]; exact ev_pos (by decide) (Ev.now _)
  rw [if_neg b0]
  refine ev_neg (by omega) ?_
  have T0 := toPoset_ev l0 (by omega)
  have E0 := eqPoset_refl l0 (by omega)
  have M0 := markPoset_ev l0 (1) (by omega) (by omega)
  have T1 := toIntS_ev l1 (by omega)
  have E1 := eqIntS_refl l1 (by omega)
  have M1 := markIntS_ev l1 (1 + l0.length) (by omega) (by omega)
  obtain ⟨r, hr, hs, hi⟩ := agree_FnExactArrayOrbit l0 l1 a2 (by omega) (by omega)
  have Er := eqIntSS_refl r.1 hr
  obtain ⟨q, R, Mr, Hr, hq⟩ := markIntSS_ev r.1 hr
  repeat' first
    | with_reducible exact Ev.now true
    | unfold laws_FnExactArrayOrbit.g1
    | unfold laws_FnExactArrayOrbit.g2
    | unfold laws_FnExactArrayOrbit.g3
    | with_reducible refine Ev.bind hs ?_
    | with_reducible refine Ev.bind hi ?_
    | with_reducible refine Ev.bind T0 ?_
    | with_reducible refine Ev.bind E0 ?_
    | with_reducible refine Ev.bind M0 ?_
    | with_reducible refine Ev.bind T1 ?_
    | with_reducible refine Ev.bind E1 ?_
    | with_reducible refine Ev.bind M1 ?_
    | with_reducible refine Ev.bind Er ?_
    | with_reducible refine Ev.bind Mr ?_
    | with_reducible refine Ev.bind Hr ?_
    | with_reducible refine ev_pos rfl ?_
    | (with_reducible refine ev_neg ?h ?_; case h => first | (simp; done) | omega | (simp only; omega) | (simp; omega))
end Go.Proofs.Ytpdgiinedbdamaa.Pure
end
section
namespace Go.Proofs.Ytpdgiinedbdamaa.R
open Go.ChangeShapes Go.WideShapes Go.ChangeAt Go.RowKit
open Go.ChangeMaps (open_string shut_string)
set_option linter.unusedVariables false
def IsRow (k : IntKind) (w : World) (a : Option Addr) (len cap : Nat) (zs : List Int) : Prop :=
  (a = none ∧ len = 0 ∧ cap = 0 ∧ zs = []) ∨
  ∃ x, a = some x ∧ len ≤ cap ∧ cap ≤ maxLen ∧ zs.length = cap ∧ (∀ i, i < zs.length → w.cell? (x.add i) = some (.int k (zs.getD i 0))) ∧ ∀ n ∈ zs, (Lit.int k n).wf = true
variable {H : Type} {enc : TypeId × Value → H} {P : Program} {W : World} {base : Nat} {ps : List MemPlace}
theorem row_of {t e : TypeId} {k : IntKind} {fuel : Nat} {c : Value} {y : DataW H × List MemPlace} (hu : P.underlying t = some (.slice e)) (he : P.underlying e = some (.int k)) (hc : P.cellsOf e = 1)
    (hf : DataW.trod enc P W 0 (fun _ => true) true fuel t [c] = some y) : ∃ a len cap zs, c = .slice a len cap ∧ IsRow k W a len cap zs := by
  rcases open_ints hu he hc hf with ⟨hcs, _⟩ | ⟨x, l, c', zs, hcs, _, hl, hm, hz, _, hcell, hwz⟩
  · simp only [List.cons.injEq, and_true] at hcs
    subst hcs
    exact ⟨_, _, _, [], rfl, .inl ⟨rfl, rfl, rfl, rfl⟩⟩
  · simp only [List.cons.injEq, and_true] at hcs
    subst hcs
    exact ⟨_, _, _, zs, rfl, .inr ⟨_, rfl, hl, hm, by simpa using hz, hcell, hwz⟩⟩
theorem array1 {α : Type} {cs : Array α} (h : cs.size = 1) : ∃ c0, cs = #[c0] := by
  obtain ⟨l⟩ := cs
  match l, h with
  | [c0], _ => exact ⟨c0, rfl⟩
theorem open_poset {r : Reach} {t e : TypeId} {f : Field} {v : Value} {d : DataW H} (hs : P.underlying t = some (.struct #[f])) (ho : f.offset = 0) (hC : P.cellsOf t = 1) (hfc : P.cellsOf f.type = 1) (hu : P.underlying f.type = some (.slice e)) (he : P.underlying e = some (.int .i64)) (hc : P.cellsOf e = 1)
    (hv : Value.okWide P W r base t v) (h : DataW.Trod enc P W 0 (fun _ => true) true t v d ps) : ∃ a len cap zs, v = .agg #[.slice a len cap] ∧ IsRow .i64 W a len cap zs := by
  obtain ⟨cs, rfl, hsz⟩ := okWide_struct hs hv
  obtain ⟨c0, rfl⟩ := array1 (hsz.trans hC)
  obtain ⟨fuel, hf⟩ := h
  obtain ⟨y0, n, _, _, h0⟩ := trod_struct1 hs hf
  rw [ho, hfc] at h0
  obtain ⟨a, len, cap, zs, rfl, hz⟩ := row_of hu he hc (by simpa [Value.cells] using h0)
  exact ⟨a, len, cap, zs, rfl, hz⟩
theorem open_desk {r : Reach} {t e : TypeId} {f f1 g : Field} {v : Value} {d : DataW H} (hs : P.underlying t = some (.struct #[f, f1])) (ho : f.offset = 0) (ho1 : f1.offset = 1) (hC : P.cellsOf t = 2) (hfc : P.cellsOf f.type = 1) (hfc1 : P.cellsOf f1.type = 1)
    (hs2 : P.underlying f.type = some (.struct #[g])) (hgo : g.offset = 0) (hgc : P.cellsOf g.type = 1) (hu : P.underlying g.type = some (.slice e)) (he : P.underlying e = some (.int .i64)) (hc : P.cellsOf e = 1) (hi : P.underlying f1.type = some (.int .i64))
    (hv : Value.okWide P W r base t v) (h : DataW.Trod enc P W 0 (fun _ => true) true t v d ps) : ∃ a len cap zs x, v = .agg #[.slice a len cap, .int .i64 x] ∧ IsRow .i64 W a len cap zs ∧ (Lit.int .i64 x).wf = true := by
  obtain ⟨cs, rfl, hsz⟩ := okWide_struct hs hv
  obtain ⟨c0, c1, rfl⟩ := Joins.array2 (hsz.trans hC)
  obtain ⟨fuel, hf⟩ := h
  obtain ⟨y0, y1, n, _, _, h0, h1⟩ := trod_struct2 hs hf
  rw [ho, hfc] at h0
  rw [ho1, hfc1] at h1
  obtain ⟨z0, m, _, _, h00⟩ := trod_struct1 hs2 h0
  rw [hgo, hgc] at h00
  obtain ⟨a, len, cap, zs, rfl, hz⟩ := row_of hu he hc (by simpa [Value.cells] using h00)
  obtain ⟨x, e0, e1, wx⟩ := DataW.trod_int hi h1
  simp [Value.cells] at e0
  subst e0
  exact ⟨a, len, cap, zs, x, rfl, hz, wx⟩
end Go.Proofs.Ytpdgiinedbdamaa.R
end
section
namespace Go.Proofs.Ytpdgiinedbdamaa.fnExactArrayOrbit
open Go.ChangeShapes Go.WideShapes Go.ChangeAt Go.RowKit Go.Proofs.YtpdgiinedbdamaaW.PrintWords Go.Proofs.Ytpdgiinedbdamaa.R
open Go.ChangeMaps (open_string shut_string)
set_option linter.unusedVariables false
theorem own : ownKnob Try.prog.godebug = none := by kernel_rfl
theorem laidOut : laidOutB Try.prog = true := by kernel_rfl
set_option maxRecDepth 100000 in
theorem lifted (os : Os) (started : os.Started) (H : Type) (enc : TypeId × Value → H) :
    ReturnsInHanded {} Try.checked os 4 .any (Rows.fnExactArrayOrbitSpec.pre6 enc Try.prog Try.f4 Rows.fnExactArrayOrbitRow.domain false) (Rows.fnExactArrayOrbitSpec.post enc Try.prog Try.f4 false true false false) := by
  refine returnsInHanded_of_change_sized (C := Try.checked) own started (by kernel_rfl) Try.func4
    (ChangeSpec.witness6 (enc := enc) (C := Try.checked) false ⟨#[], #[.agg #[.slice none 0 0], .slice none 0 0, .int .i64 0], []⟩ 8 (by kernel_rfl) (by kernel_rfl) (by kernel_rfl) (by kernel_rfl)) ?_
  intro W base args ds gs before hval0 hW hcnd hsz0 _
  have hval : ∀ (j : Nat) t v, Try.f4.params[j]? = some t → args[j]? = some v → Value.okWide Try.prog W .any base t v := hval0
  have hW' := hW
  obtain ⟨p, q, hA0, hV, rfl, hfz, hnd⟩ := hW
  have hA : DataW.TrodAll enc Try.prog W 0 (fun _ => true) true Try.f4.params.toList args.toList ds p := hA0
  rw [Try.params4] at hA hval
  obtain ⟨v0, vs0, d0, ds0, p0, q0, hargs, rfl, rfl, h0, r0⟩ := trodAll_cons hA
  obtain ⟨v1, vs1, d1, ds1, p1, q1, rfl, rfl, rfl, h1, r1⟩ := trodAll_cons r0
  obtain ⟨v2, vs2, d2, ds2, p2, q2, rfl, rfl, rfl, h2, r2⟩ := trodAll_cons r1
  obtain ⟨rfl, rfl, rfl⟩ := trodAll_nil r2
  obtain rfl : args = #[v0, v1, v2] := by cases args; simp_all
  obtain ⟨rfl, rfl⟩ := trodVars_none hV
  have k0 := h0
  have lt0 : ∀ x ∈ p0, x.block < W.heap.size := by obtain ⟨m, hm⟩ := k0; exact DataW.trod_lt m _ _ _ hm
  obtain ⟨A0, len0, cap0, z0, rfl, w0⟩ := open_poset Try.underlying24 rfl (by kernel_rfl) (by kernel_rfl) Try.underlying22 Try.underlying3 (by kernel_rfl) (hval 0 24 v0 rfl rfl) h0
  have k1 := h1
  have lt1 : ∀ x ∈ p1, x.block < W.heap.size := by obtain ⟨m, hm⟩ := k1; exact DataW.trod_lt m _ _ _ hm
  obtain ⟨A1, len1, cap1, rfl⟩ := okWide_slice Try.underlying22 (hval 1 22 v1 rfl rfl)
  obtain ⟨z1, w1⟩ : ∃ zs, IsRow .i64 W A1 len1 cap1 zs := by
    obtain ⟨fuel, hf⟩ := h1
    obtain ⟨a, l, c, zs, e, hz⟩ := row_of Try.underlying22 Try.underlying3 (by kernel_rfl) (by simpa [Value.cells] using hf)
    injection e with e1 e2 e3
    subst e1 e2 e3
    exact ⟨zs, hz⟩
  have k2 := h2
  have lt2 : ∀ x ∈ p2, x.block < W.heap.size := by obtain ⟨m, hm⟩ := k2; exact DataW.trod_lt m _ _ _ hm
  obtain ⟨a2, rfl, rfl, rfl, w2⟩ := open_int Try.underlying3 (hval 2 3 v2 rfl rfl) h2
  obtain ⟨l0, rfl, hr0, hm0, hw0, hc0⟩ := ReadsInt.ofRowC w0
  obtain ⟨l1, rfl, hr1, hm1, hw1, hc1⟩ := ReadsInt.ofRowC w1
  clear hA0 hval0 hsz0
  obtain ⟨k, hp⟩ := Pure.FnExactArrayOrbit l0 l1 a2 hm0 hw0 hm1 hw1 w2
  refine (L.laws_FnExactArrayOrbit.calls k _ _ l0 _ _ l1 a2 true W (Kd.C_of_reads (d := (0 : Int)) (h1 := fun _ => rfl) hr0) hc0 (Kd.C_of_reads (d := (0 : Int)) (h1 := fun _ => rfl) hr1) hc1 hp).mono fun e W' ⟨he, hd⟩ => ?_
  have bel : Below W.heap.size W W' := hd
  subst he
  exact ⟨_, rfl, _, _, _, [], _, [], hW', trodAll_mk1 (shut_bool Try.underlying4 _), (trodAll_cons_mk (Below.trod laidOut (by kernel_rfl) (of_decide_eq_true (by kernel_rfl)) k0 bel lt0) (trodAll_cons_mk (Below.trod laidOut (by kernel_rfl) (of_decide_eq_true (by kernel_rfl)) k1 bel lt1) (trodAll_cons_mk (Below.trod laidOut (by kernel_rfl) (of_decide_eq_true (by kernel_rfl)) k2 bel lt2) trodAll_mk0))), rfl, bel.frame _, fun h => by cases h⟩
theorem over : Rows.fnExactArrayOrbitRow.holds Try.pinned (OpenSpec.ofChange Rows.fnExactArrayOrbitSpec) :=
  OpenClaim.holds_of_wide 4 Try.f4 rfl rfl rfl rfl rfl rfl rfl ⟨rfl, rfl, rfl, rfl, rfl⟩ rfl rfl rfl rfl rfl (by kernel_rfl) Try.func4 (by kernel_rfl)
    (of_decide_eq_true (by kernel_rfl)) (by unfold Func.isWrapper; first | (rw [if_pos (by decide +kernel)]; kernel_rfl) | (rw [if_neg (by decide +kernel)]; exact ⟨rfl, rfl⟩))
    (fun os started H enc _ => lifted os started H enc)
theorem proved : Rows.FnExactArrayOrbitSaid := over
end Go.Proofs.Ytpdgiinedbdamaa.fnExactArrayOrbit
namespace Go.Proofs.Ytpdgiinedbdamaa
theorem fnExactArrayOrbit_holds : Rows.FnExactArrayOrbitSaid := fnExactArrayOrbit.proved
end Go.Proofs.Ytpdgiinedbdamaa
end
