/- Laws about the given program: the law FnExactRowArrayTimes answers true for every input that its row lets in; no condition is added to the given statement. Contracts of the Go functions that it reaches, and the plain proof over lists. -/
import Derived.Below
import Derived.ChangeOld
import Derived.Lib.SmallJoins
import Derived.OpenShut
import Derived.ProofKit
import Derived.ShutString
import Derived.SizedLaws
import Derived.Test.YtpcehliabaakeaaRows
import Derived.WalkKit
import Derived.Test.YtpcehliabaakeaaW0
import Derived.Test.YtpcehliabaakeaaW1
import Derived.Test.YtpcehliabaakeaaKFnExactRowArrayTimes0
import Derived.Test.YtpcehliabaakeaaKFnExactRowArrayTimes1
import Derived.Test.YtpcehliabaakeaaKFnExactRowArrayTimes2
import Derived.Test.YtpcehliabaakeaaKFnExactRowArrayTimes3
import Derived.Test.YtpcehliabaakeaaKFnExactRowArrayTimes4
import Derived.Test.YtpcehliabaakeaaKFnExactRowArrayTimes5
import Derived.Test.YtpcehliabaakeaaKFnExactRowArrayTimes6
import Derived.Test.YtpcehliabaakeaaKFnExactRowArrayTimes7
section
namespace Go.Proofs.Ytpcehliabaakeaa.M
open Go.RowKit Go.Proofs.YtpcehliabaakeaaW.PrintWords Go.Proofs.YtpcehliabaakeaaW.PrintLast Go.Proofs.YtpcehliabaakeaaW.PrintMore Go.Proofs.Ytpcehliabaakeaa.L
set_option linter.unusedVariables false
theorem foldMax_le {s m : Nat} (f : Nat → Nat) : ∀ (n a : Nat), foldBits n s (fun o j => max o (f j)) a ≤ m ↔ (a ≤ m ∧ ∀ j, j < n → s.testBit j = true → f j ≤ m)
  | 0, a => by simp [foldBits]
  | n + 1, a => by
    rw [foldBits_succ]
    have ih := foldMax_le (s := s) (m := m) f n a
    split
    · rename_i hs
      rw [Nat.max_le, ih]
      constructor
      · rintro ⟨⟨h1, h2⟩, h3⟩
        refine ⟨h1, fun j hj hb => ?_⟩
        by_cases e : j = n
        · subst e; exact h3
        · exact h2 j (by omega) hb
      · rintro ⟨h1, h2⟩
        exact ⟨⟨h1, fun j hj hb => h2 j (by omega) hb⟩, h2 n (by omega) hs⟩
    · rename_i hs
      rw [ih]
      constructor
      · rintro ⟨h1, h2⟩
        refine ⟨h1, fun j hj hb => ?_⟩
        by_cases e : j = n
        · subst e; exact absurd hb hs
        · exact h2 j (by omega) hb
      · rintro ⟨h1, h2⟩
        exact ⟨h1, fun j hj hb => h2 j (by omega) hb⟩
theorem foldMin_le {m : Nat} (c : Nat → Bool) (f : Nat → Nat) : ∀ (l : List Nat) (a : Nat), m ≤ l.foldl (fun o i => if c i = true then min o (f i) else o) a ↔ (m ≤ a ∧ ∀ i, i ∈ l → c i = true → m ≤ f i)
  | [], a => by simp
  | x :: l, a => by
    rw [List.foldl_cons, foldMin_le c f l]
    by_cases h : c x = true
    · rw [if_pos h, Nat.le_min]
      simp only [List.mem_cons]
      constructor
      · rintro ⟨⟨h1, h2⟩, h3⟩
        refine ⟨h1, fun i hi hc => ?_⟩
        rcases hi with rfl | hi
        · exact h2
        · exact h3 i hi hc
      · rintro ⟨h1, h2⟩
        exact ⟨⟨h1, h2 x (.inl rfl) h⟩, fun i hi hc => h2 i (.inr hi) hc⟩
    · rw [if_neg h]
      simp only [List.mem_cons]
      constructor
      · rintro ⟨h1, h2⟩
        refine ⟨h1, fun i hi hc => ?_⟩
        rcases hi with rfl | hi
        · exact absurd hc h
        · exact h2 i hi hc
      · rintro ⟨h1, h2⟩
        exact ⟨h1, fun i hi hc => h2 i (.inr hi) hc⟩
theorem lowN_le {p y : List Nat} (g : Good p) {e m : Nat} : lowN p y e ≤ m ↔ ∀ j, (less p e).testBit j = true → y.getD j 0 ≤ m := by
  unfold lowN; rw [foldMax_le]
  constructor
  · rintro ⟨_, h⟩ j hb; exact h j (by have := g.bit hb; omega) hb
  · intro h; exact ⟨by omega, fun j _ hb => h j hb⟩
theorem le_highN {p y : List Nat} (g : Good p) {b e m : Nat} : m ≤ highN p y b e ↔ (m ≤ b ∧ ∀ i, (less p i).testBit e = true → m ≤ y.getD i 0) := by
  unfold highN; rw [foldMin_le (fun i => (less p i).testBit e)]
  constructor
  · rintro ⟨h1, h⟩; exact ⟨h1, fun i hb => h i (by have := g.bit hb; simp; omega) hb⟩
  · rintro ⟨h1, h⟩; exact ⟨h1, fun i _ hb => h i hb⟩
theorem low_le {p y : List Nat} {b : Nat} (g : Good p) (a : Arr p y b) (e : Nat) : lowN p y e ≤ y.getD e 0 := (lowN_le g).mpr fun j hb => a.up e j hb
theorem le_high {p y : List Nat} {b : Nat} (g : Good p) (a : Arr p y b) (e : Nat) : y.getD e 0 ≤ highN p y b e := (le_highN g).mpr ⟨a.hi e, fun i hb => a.up i e hb⟩
theorem high_le_b {p y : List Nat} (g : Good p) (b e : Nat) : highN p y b e ≤ b := ((le_highN g).mp (Nat.le_refl _)).1
def tgN (p : List Nat) (b : Nat) (y : List Nat) (e : Nat) : List Nat := y.set e (lowN p y e + highN p y b e - y.getD e 0)
theorem getD_set (y : List Nat) (e v i : Nat) : (y.set e v).getD i 0 = if i = e ∧ e < y.length then v else y.getD i 0 := by
  simp only [List.getD_eq_getElem?_getD, List.getElem?_set]
  by_cases h : e = i
  · subst h
    by_cases h2 : e < y.length
    · simp [h2]
    · simp [h2]
  · simp [h, Ne.symm h]
theorem tgN_len (p : List Nat) (b : Nat) (y : List Nat) (e : Nat) : (tgN p b y e).length = y.length := by simp [tgN]
theorem tgN_get (p : List Nat) (b : Nat) (y : List Nat) (e i : Nat) : (tgN p b y e).getD i 0 = if i = e ∧ e < y.length then lowN p y e + highN p y b e - y.getD e 0 else y.getD i 0 := getD_set ..
theorem Arr.tg {p y : List Nat} {b : Nat} (g : Good p) (a : Arr p y b) (e : Nat) : Arr p (tgN p b y e) b := by
  have h1 := low_le g a e
  have h2 := le_high g a e
  have h3 := high_le_b (y := y) g b e
  refine ⟨by rw [tgN_len]; exact a.len, fun i => ?_, fun i j hb => ?_⟩
  · rw [tgN_get]; split
    · omega
    · exact a.hi i
  · have hj := g.bit hb
    have hu := a.up i j hb
    rw [tgN_get, tgN_get]
    by_cases c1 : j = e ∧ e < y.length
    · rw [if_pos c1, if_neg (by omega)]
      have := ((le_highN (y := y) (b := b) g (e := e)).mp (Nat.le_refl _)).2 i (by rw [← c1.1]; exact hb)
      omega
    · rw [if_neg c1]
      by_cases c2 : i = e ∧ e < y.length
      · rw [if_pos c2]
        have := (lowN_le (y := y) g (e := e)).mp (Nat.le_refl _) j (by rw [← c2.1]; exact hb)
        omega
      · rw [if_neg c2]; exact hu
theorem tg_val {p y : List Nat} {b : Nat} (g : Good p) (a : Arr p y b) (hb : b ≤ 20) (e : Nat) : wrap64 (wrap64 (((lowN p y e : Nat) : Int) + ((highN p y b e : Nat) : Int)) - rd (toI y) (e : Int)) = ((lowN p y e + highN p y b e - y.getD e 0 : Nat) : Int) := by
  have h1 := low_le g a e
  have h2 := le_high g a e
  have h3 := high_le_b (y := y) g b e
  have h4 := a.hi e
  rw [rd_toI, wrap_id (x := ((lowN p y e : Nat) : Int) + ((highN p y b e : Nat) : Int)) (by omega) (by omega), wrap_id (by omega) (by omega)]; omega
theorem l1Own_eq (l : List Int) (h : l.length < 17592186044416) : spec_l1Own.f l = some l := by
  unfold spec_l1Own.f; rw [Option.bind_some, if_pos (by simpa using h)]; rfl
theorem Clone_eq (l : List Int) (h : l.length < 17592186044416) : slices_Clone_int_int.f l = some l := by unfold slices_Clone_int_int.f; rw [if_pos h]
theorem Arr.small {p y : List Nat} {b : Nat} (g : Good p) (a : Arr p y b) : y.length ≤ 10 := by rw [a.len]; exact g.le
theorem pcAt_ev {p y : List Nat} {b : Nat} (g : Good p) (a : Arr p y b) (hb : b ≤ 20) {e : Nat} (he : e < p.length) : Ev (fun k => spec_pcAt.f k (toI p) (toI y) (b : Int) (e : Int)) (toI (tgN p b y e)) := by
  have hl := a.small g
  refine Ev.bind (pcRange_ev g a.len b e he) (ev_call (l1Own_eq _ (by rw [toI_len]; omega)) (ev_pos (by omega) (ev_pos (by rw [toI_len, a.len]; omega) (ev_pos (by rw [toI_len, a.len]; omega) ?_))))
  simp only
  rw [tg_val g a hb, Int.toNat_natCast, toI_set]; exact Ev.now _
theorem turn_l0 {p : List Nat} {b : Nat} (g : Good p) (hb : b ≤ 20) (w : List Nat) (hw : ∀ e ∈ w, e < p.length) (hl : w.length ≤ 1000000) : ∀ (d i : Nat) (y : List Nat), i + d = w.length → Arr p y b →
    Ev (fun k => impl_Poset_turn.l0 k (toI y) (b : Int) (toI w) ((toI w).length : Int) (i : Int) (toI p)) (toI ((w.drop i).foldl (tgN p b) y))
  | 0, i, y, h, a => by
    refine Ev.step (fun _ => impl_Poset_turn.l0.eq_2 ..) (ev_neg (by rw [toI_len]; omega) ?_)
    rw [List.drop_of_length_le (by omega)]; exact Ev.now _
  | d + 1, i, y, h, a => by
    have hi : i < w.length := by omega
    have he := hw _ (List.getElem_mem hi)
    have e1 : rd (toI w) (i : Int) = ((w[i] : Nat) : Int) := by rw [rd_toI]; simp [List.getD_eq_getElem?_getD, hi]
    refine Ev.step (fun _ => impl_Poset_turn.l0.eq_2 ..) ?_
    rw [e1]
    refine ev_pos (by rw [toI_len]; omega) (ev_pos (by omega) (ev_pos (by rw [toI_len]; omega) (Ev.bind (reach_ev g a.len b _ he) (ev_pos (by omega) (ev_pos (by rw [toI_len, a.len]; omega) ?_)))))
    simp only
    rw [tg_val g a hb, Int.toNat_natCast, toI_set, wrap_succ (by omega), List.drop_eq_getElem_cons hi, List.foldl_cons]
    exact turn_l0 g hb w hw hl d (i + 1) _ (by omega) (a.tg g _)
theorem turn_ev {p y : List Nat} {b : Nat} (g : Good p) (a : Arr p y b) (hb : b ≤ 20) (w : List Nat) (hw : ∀ e ∈ w, e < p.length) (hl : w.length ≤ 1000000) : Ev (fun k => impl_Poset_turn.f k (toI p) (toI y) (b : Int) (toI w)) (toI (w.foldl (tgN p b) y)) := by
  have := turn_l0 g hb w hw hl w.length 0 y (by omega) a
  rw [List.drop_zero] at this; exact this
theorem Arr.fold {p : List Nat} {b : Nat} (g : Good p) : ∀ (w y : List Nat), Arr p y b → Arr p (w.foldl (tgN p b) y) b
  | [], _, a => a
  | e :: w, y, a => Arr.fold g w _ (a.tg g e)
def wordB (n : Nat) (w : List Int) (m : Nat) : Bool := decide (w.length ≤ m) && w.all (inB · 0 ((n : Int) - 1))
theorem wordB_of {n m : Nat} {w : List Int} (h : wordB n w m = true) : ∃ v, w = toI v ∧ v.length ≤ m ∧ ∀ e ∈ v, e < n := by
  simp only [wordB, Bool.and_eq_true, decide_eq_true_eq] at h
  have e := toI_of_all h.2
  refine ⟨w.map Int.toNat, e, by simpa using h.1, fun x hx => ?_⟩
  obtain ⟨a, ha, rfl⟩ := List.mem_map.mp hx
  have := inB_iff.mp (List.all_eq_true.mp h.2 a ha)
  omega
theorem areElements_eq (p : List Nat) (w : List Int) (m : Nat) (hp : p.length ≤ 10) (hw : w.length ≤ 9223372036854775806) : impl_areElements.f (toI p) w (m : Int) = some (wordB p.length w m) := by
  unfold impl_areElements.f wordB
  rw [if_pos hw]
  by_cases h : w.length ≤ m
  · rw [if_pos (by omega), decide_eq_true h, Bool.true_and]
    congr 1
    rw [Bool.eq_iff_iff]
    simp only [impl_areElements.p, toI_len, wrap_id (x := (p.length : Int) - 1) (by omega) (by omega), inB, Bool.not_eq_true', List.any_eq_false, List.all_eq_true, Bool.and_eq_true, decide_eq_true_eq]
    simp
  · rw [if_neg (by omega), decide_eq_false h, Bool.false_and]
theorem tgIsWord_ev (p : List Nat) (w : List Int) (hp : p.length ≤ 10) (hw : w.length ≤ 9223372036854775806) : Ev (fun k => spec_tgIsWord.f k (toI p) w) (wordB p.length w 100) := by
  unfold spec_tgIsWord.f wordB
  rw [toI_len, wrap_id (by omega) (by omega)]
  refine ev_ite (fun e => ?_) (fun e => ?_)
  · rw [decide_eq_true (by omega), Bool.true_and]
    exact Ev.bind (l1All_ev w 0 _ hw) (Ev.now _)
  · rw [decide_eq_false (by omega), Bool.false_and]; exact Ev.now _
theorem specTN_l0 {p : List Nat} {b : Nat} (g : Good p) (hb : b ≤ 20) (w : List Nat) (hw : ∀ e ∈ w, e < p.length) (hl : w.length ≤ 1000000) : ∀ (d i : Nat) (y : List Nat), i + d = w.length → Arr p y b →
    Ev (fun k => spec_ToggleNumbers.l0 k (b : Int) (toI y) (toI w) ((toI w).length : Int) (i : Int) (toI p)) (toI ((w.drop i).foldl (tgN p b) y), true)
  | 0, i, y, h, a => by
    refine Ev.step (fun _ => spec_ToggleNumbers.l0.eq_2 ..) (ev_neg (by rw [toI_len]; omega) ?_)
    rw [List.drop_of_length_le (by omega)]; exact Ev.now _
  | d + 1, i, y, h, a => by
    have hi : i < w.length := by omega
    have he := hw _ (List.getElem_mem hi)
    have e1 : rd (toI w) (i : Int) = ((w[i] : Nat) : Int) := by rw [rd_toI]; simp [List.getD_eq_getElem?_getD, hi]
    refine Ev.step (fun _ => spec_ToggleNumbers.l0.eq_2 ..) ?_
    rw [e1]
    refine ev_pos (by rw [toI_len]; omega) (ev_pos (by omega) (ev_pos (by rw [toI_len]; omega) (Ev.bind (pcAt_ev g a hb he) ?_)))
    rw [wrap_succ (by omega), List.drop_eq_getElem_cons hi, List.foldl_cons]
    exact specTN_l0 g hb w hw hl d (i + 1) _ (by omega) (a.tg g _)
theorem fold_len (p : List Nat) (b : Nat) : ∀ (w y : List Nat), (w.foldl (tgN p b) y).length = y.length
  | [], _ => rfl
  | e :: w, y => by rw [List.foldl_cons, fold_len p b w, tgN_len]
theorem togN_ev (l x : List Int) (b : Int) (w : List Int) (hw : w.length ≤ 1048576) : ∃ r : List Int × Bool, r.1.length ≤ 1000 ∧ Ev (fun k => spec_ToggleNumbers.f k l x b w) r ∧ Ev (fun k => impl_ToggleNumbers.f k l x b w) r := by
  by_cases h : arrayB l x b = true
  · obtain ⟨p, y, c, rfl, rfl, rfl, g, hc, a⟩ := arrayB_of h
    have hs := a.small g
    by_cases h2 : wordB p.length w 100 = true
    · obtain ⟨v, rfl, hv, hvn⟩ := wordB_of h2
      refine ⟨(toI (v.foldl (tgN p c) y), true), by simp [fold_len]; omega, ?_, ?_⟩
      · refine Ev.bind (pcIs_ev _ _ _) (ev_pos h (Ev.bind (tgIsWord_ev p _ g.le (by omega)) ?_))
        rw [h2]
        refine Ev.step (fun _ => spec_ToggleNumbers.j0.eq_2 ..) (ev_neg (by simp) (ev_call (l1Own_eq _ (by rw [toI_len]; omega)) ?_))
        have := specTN_l0 g hc v hvn (by omega) v.length 0 y (by omega) a
        rw [List.drop_zero] at this; exact this
      · refine Ev.bind (isArray_ev _ _ _) (ev_pos h (ev_call (areElements_eq p _ 100 g.le (by omega)) ?_))
        rw [h2]
        exact Ev.step (fun _ => impl_ToggleNumbers.j0.eq_2 ..) (ev_neg (by simp) (ev_call (Clone_eq _ (by rw [toI_len]; omega)) (Ev.bind (turn_ev g a hc v hvn (by omega)) (Ev.now _))))
    · refine ⟨([], false), by simp, ?_, ?_⟩
      · refine Ev.bind (pcIs_ev _ _ _) (ev_pos h (Ev.bind (tgIsWord_ev p _ g.le (by omega)) ?_))
        rw [Bool.eq_false_iff.mpr h2]
        exact Ev.step (fun _ => spec_ToggleNumbers.j0.eq_2 ..) (ev_pos rfl (Ev.now _))
      · refine Ev.bind (isArray_ev _ _ _) (ev_pos h (ev_call (areElements_eq p _ 100 g.le (by omega)) ?_))
        rw [Bool.eq_false_iff.mpr h2]
        exact Ev.step (fun _ => impl_ToggleNumbers.j0.eq_2 ..) (ev_pos rfl (Ev.now _))
  · refine ⟨([], false), by simp, Ev.bind (pcIs_ev _ _ _) (ev_neg h ?_), Ev.bind (isArray_ev _ _ _) (ev_neg h ?_)⟩
    · exact Ev.step (fun _ => spec_ToggleNumbers.j0.eq_2 ..) (ev_pos rfl (Ev.now _))
    · exact Ev.step (fun _ => impl_ToggleNumbers.j0.eq_2 ..) (ev_pos rfl (Ev.now _))
theorem agree_FnExactToggleNumbers (l x : List Int) (b : Int) (w : List Int) (_ : l.length ≤ 1048576) (_ : x.length ≤ 1048576) (hw : w.length ≤ 1048576) : ∃ r : List Int × Bool, r.1.length ≤ 1000 ∧ Ev (fun k => spec_ToggleNumbers.f k l x b w) r ∧ Ev (fun k => impl_ToggleNumbers.f k l x b w) r := togN_ev l x b w hw
theorem agree_FnExactToggleNumber (l x : List Int) (b e : Int) (hl : l.length ≤ 1048576) (_ : x.length ≤ 1048576) : ∃ r : List Int × Bool, r.1.length ≤ 1000 ∧ Ev (fun k => spec_ToggleNumber.f k l x b e) r ∧ Ev (fun k => impl_ToggleNumber.f k l x b e) r := by
  by_cases h : arrayB l x b = true
  · have h' := h
    obtain ⟨p, y, c, rfl, rfl, rfl, g, hc, a⟩ := arrayB_of h
    have hs := a.small g
    by_cases h2 : inB e 0 (((toI p).length : Int) - 1) = true
    · have b2 := inB_iff.mp h2
      rw [toI_len] at b2
      obtain ⟨e, rfl⟩ : ∃ e' : Nat, e = (e' : Int) := ⟨e.toNat, by omega⟩
      have hw : wordB p.length [(e : Int)] 100 = true := by simp [wordB, inB]; omega
      refine ⟨(toI (tgN p c y e), true), by simp [tgN_len]; omega, ?_, ?_⟩
      · exact Ev.bind (pcIs_ev _ _ _) (ev_pos h (ev_call (tgElement_eq _ _ hl) (ev_pos h2 (Ev.bind (pcAt_ev g a hc (by omega)) (Ev.now _)))))
      · refine Ev.bind (a := (toI (tgN p c y e), true)) ?_ (Ev.now _)
        refine Ev.bind (isArray_ev _ _ _) (ev_pos h (ev_call (areElements_eq p _ 100 g.le (by simp)) ?_))
        rw [hw]
        have := turn_ev g a hc [e] (by simp; omega) (by simp)
        exact Ev.step (fun _ => impl_ToggleNumbers.j0.eq_2 ..) (ev_neg (by simp) (ev_call (Clone_eq _ (by rw [toI_len]; omega)) (Ev.bind this (Ev.now _))))
    · have hw : wordB p.length [e] 100 = false := by
        rw [toI_len] at h2
        simp only [wordB, List.all_cons, List.all_nil, Bool.and_true, Bool.eq_false_iff.mpr h2, Bool.and_false]
      refine ⟨([], false), by simp, ?_, ?_⟩
      · exact Ev.bind (pcIs_ev _ _ _) (ev_pos h (ev_call (tgElement_eq _ _ hl) (ev_neg h2 (Ev.now _))))
      · refine Ev.bind (a := ([], false)) ?_ (Ev.now _)
        refine Ev.bind (isArray_ev _ _ _) (ev_pos h (ev_call (areElements_eq p _ 100 g.le (by simp)) ?_))
        rw [hw]
        exact Ev.step (fun _ => impl_ToggleNumbers.j0.eq_2 ..) (ev_pos rfl (Ev.now _))
  · refine ⟨([], false), by simp, Ev.bind (pcIs_ev _ _ _) (ev_neg h (Ev.now _)), Ev.bind (a := ([], false)) (Ev.bind (isArray_ev _ _ _) (ev_neg h ?_)) (Ev.now _)⟩
    exact Ev.step (fun _ => impl_ToggleNumbers.j0.eq_2 ..) (ev_pos rfl (Ev.now _))
end Go.Proofs.Ytpcehliabaakeaa.M
end
section
namespace Go.Proofs.Ytpcehliabaakeaa.M
open Go.RowKit Go.Proofs.YtpcehliabaakeaaW.PrintWords Go.Proofs.YtpcehliabaakeaaW.PrintLast Go.Proofs.YtpcehliabaakeaaW.PrintMore Go.Proofs.Ytpcehliabaakeaa.L
set_option linter.unusedVariables false
theorem numbered_l0 (n : Nat) (hn : n ≤ 1000) : ∀ (d i : Nat) (acc : List Nat), i + d = n → acc.length = i → Ev (fun k => impl_numbered.l0 k (toI acc) (n : Int) (i : Int)) (toI (acc ++ List.range' i d))
  | 0, i, acc, h, ha => by
    refine Ev.step (fun _ => impl_numbered.l0.eq_2 ..) (ev_neg (by omega) ?_)
    simpa using Ev.now _
  | d + 1, i, acc, h, ha => by
    refine Ev.step (fun _ => impl_numbered.l0.eq_2 ..) (ev_pos (by omega) (ev_pos (by rw [toI_len]; omega) ?_))
    rw [wrap_succ (by omega), ← toI_one, ← toI_app, List.range'_succ]
    have := numbered_l0 n hn d (i + 1) (acc ++ [i]) (by omega) (by simp [ha])
    simpa using this
theorem numbered_ev (n : Nat) (hn : n ≤ 1000) : Ev (fun k => impl_numbered.f k (n : Int)) (toI (List.range n)) := by
  have := numbered_l0 n hn n 0 [] (by omega) rfl
  rw [List.nil_append, ← List.range_eq_range'] at this; exact this
theorem toI_get (p : List Nat) (i : Nat) (h : i < (toI p).length) : (toI p)[i] = ((p[i]'(by simpa using h) : Nat) : Int) := by simp [toI]
theorem reverse_l0 (l : List Int) (hl : l.length ≤ 1000000) : ∀ (d i j : Nat) (x : List Int), i + j + 1 = l.length → j + 1 ≤ i + d → (hx : x.length = l.length) →
    (∀ t (h : t < x.length), x[t] = if t < i ∨ j < t then l[l.length - 1 - t]'(by omega) else l[t]'(by omega)) → Ev (fun k => slices_Reverse_int_int.l0 k x (i : Int) (j : Int)) l.reverse
  | 0, i, j, x, h, hd, hx, ht => by
    refine Ev.step (fun _ => slices_Reverse_int_int.l0.eq_2 ..) (ev_neg (by omega) ?_)
    have e : x = l.reverse := by
      apply List.ext_getElem (by simpa using hx)
      intro t h1 h2
      rw [ht t h1, List.getElem_reverse]
      split
      · rfl
      · congr 1; omega
    rw [e]; exact Ev.now _
  | d + 1, i, j, x, h, hd, hx, ht => by
    by_cases hij : i < j
    · refine Ev.step (fun _ => slices_Reverse_int_int.l0.eq_2 ..) (ev_pos (by omega) (ev_pos (by omega) (ev_pos (by omega) (ev_pos (by omega) (ev_pos (by omega) ?_)))))
      have hi : i < x.length := by omega
      have hj : j < x.length := by omega
      rw [rd_get hi, rd_get hj, wrap_succ (by omega), wrap_id (x := (j : Int) - 1) (by omega) (by omega), show ((j : Int) - 1) = ((j - 1 : Nat) : Int) by omega, Int.toNat_natCast, Int.toNat_natCast]
      refine reverse_l0 l hl d (i + 1) (j - 1) _ (by omega) (by omega) (by simpa using hx) (fun t h1 => ?_)
      have h1' : t < x.length := by simpa using h1
      rw [List.getElem_set, List.getElem_set]
      by_cases c1 : j = t
      · subst c1
        rw [if_pos rfl, if_pos (by omega)]
        refine (ht i hi).trans ?_
        rw [if_neg (by omega)]
        congr 1; omega
      · rw [if_neg c1]
        by_cases c2 : i = t
        · subst c2
          rw [if_pos rfl, if_pos (by omega)]
          refine (ht j hj).trans ?_
          rw [if_neg (by omega)]
          congr 1; omega
        · rw [if_neg c2, ht t h1']
          by_cases c3 : t < i ∨ j < t
          · rw [if_pos c3, if_pos (by omega)]
          · rw [if_neg c3, if_neg (by omega)]
    · refine Ev.step (fun _ => slices_Reverse_int_int.l0.eq_2 ..) (ev_neg (by omega) ?_)
      have e : x = l.reverse := by
        apply List.ext_getElem (by simpa using hx)
        intro t h1 h2
        rw [ht t h1, List.getElem_reverse]
        split
        · rfl
        · congr 1; omega
      rw [e]; exact Ev.now _
theorem reverse_ev (l : List Int) (hl : l.length ≤ 1000000) : Ev (fun k => slices_Reverse_int_int.f k l) l.reverse := by
  unfold slices_Reverse_int_int.f
  cases hn : l with
  | nil => exact Ev.step (fun _ => slices_Reverse_int_int.l0.eq_2 ..) (ev_neg (by simp [wrap64]) (Ev.now _))
  | cons x t =>
    rw [← hn]
    have hp : 0 < l.length := by rw [hn]; simp
    rw [wrap_id (by omega) (by omega), show ((l.length : Int) - 1) = ((l.length - 1 : Nat) : Int) by omega]
    refine reverse_l0 l hl l.length 0 (l.length - 1) l (by omega) (by omega) rfl (fun t h => ?_)
    rw [if_neg (by omega)]
theorem toI_rev (p : List Nat) : (toI p).reverse = toI p.reverse := by simp [toI]
def rowN (p : List Nat) (b : Nat) (y : List Nat) : List Nat := (List.range p.length).reverse.foldl (tgN p b) y
def backN (p : List Nat) (b : Nat) (y : List Nat) : List Nat := (List.range p.length).foldl (tgN p b) y
theorem Arr.row {p y : List Nat} {b : Nat} (g : Good p) (a : Arr p y b) : Arr p (rowN p b y) b := Arr.fold g _ _ a
theorem Arr.back {p y : List Nat} {b : Nat} (g : Good p) (a : Arr p y b) : Arr p (backN p b y) b := Arr.fold g _ _ a
def iter {α : Type} (f : α → α) : Nat → α → α
  | 0, x => x
  | n + 1, x => iter f n (f x)
theorem iter_len {p : List Nat} {b : Nat} {f : List Nat → List Nat} (hf : ∀ y, (f y).length = y.length) : ∀ (n : Nat) (y : List Nat), (iter f n y).length = y.length
  | 0, _ => rfl
  | n + 1, y => by rw [iter, iter_len (p := p) (b := b) hf n, hf]
theorem pcRow_l0 {p : List Nat} {b : Nat} (g : Good p) (hb : b ≤ 20) : ∀ (i : Nat) (y : List Nat), i ≤ p.length → Arr p y b → Ev (fun k => spec_pcRow.l0 k (b : Int) (toI y) ((i : Int) - 1) (toI p)) (toI ((List.range i).reverse.foldl (tgN p b) y))
  | 0, y, h, a => by
    refine Ev.step (fun _ => spec_pcRow.l0.eq_2 ..) (ev_neg (by omega) ?_)
    exact Ev.now _
  | i + 1, y, h, a => by
    refine Ev.step (fun _ => spec_pcRow.l0.eq_2 ..) (ev_pos (by omega) ?_)
    have gl := g.le
    rw [show (((i + 1 : Nat) : Int) - 1) = (i : Int) by omega, wrap_id (by omega) (by omega), List.range_succ, List.reverse_append, List.reverse_singleton, List.singleton_append, List.foldl_cons]
    exact Ev.bind (pcAt_ev g a hb (by omega)) (pcRow_l0 g hb i _ (by omega) (a.tg g i))
theorem pcRow_ev {p y : List Nat} {b : Nat} (g : Good p) (a : Arr p y b) (hb : b ≤ 20) : Ev (fun k => spec_pcRow.f k (toI p) (toI y) (b : Int)) (toI (rowN p b y)) := by
  have gl := g.le
  have hl := a.small g
  refine ev_call (l1Own_eq _ (by rw [toI_len]; omega)) ?_
  rw [toI_len, wrap_id (by omega) (by omega)]
  exact pcRow_l0 g hb p.length y (Nat.le_refl _) a
theorem pcBack_l0 {p : List Nat} {b : Nat} (g : Good p) (hb : b ≤ 20) : ∀ (d i : Nat) (y : List Nat), i + d = p.length → Arr p y b → Ev (fun k => spec_pcBack.l0 k (b : Int) (toI y) (p.length : Int) (i : Int) (toI p)) (toI ((List.range' i d).foldl (tgN p b) y))
  | 0, i, y, h, a => Ev.step (fun _ => spec_pcBack.l0.eq_2 ..) (ev_neg (by omega) (Ev.now _))
  | d + 1, i, y, h, a => by
    have gl := g.le
    refine Ev.step (fun _ => spec_pcBack.l0.eq_2 ..) (ev_pos (by omega) (Ev.bind (pcAt_ev g a hb (by omega)) ?_))
    rw [wrap_succ (by omega), List.range'_succ, List.foldl_cons]
    exact pcBack_l0 g hb d (i + 1) _ (by omega) (a.tg g i)
theorem pcBack_ev {p y : List Nat} {b : Nat} (g : Good p) (a : Arr p y b) (hb : b ≤ 20) : Ev (fun k => spec_pcBack.f k (toI p) (toI y) (b : Int)) (toI (backN p b y)) := by
  have hl := a.small g
  refine ev_call (l1Own_eq _ (by rw [toI_len]; omega)) ?_
  rw [toI_len]
  have := pcBack_l0 g hb p.length 0 y (by omega) a
  rw [← List.range_eq_range'] at this; exact this
theorem specRAT_l1 {p : List Nat} {b : Nat} (g : Good p) (hb : b ≤ 20) : ∀ (n : Nat) (y : List Nat), n ≤ 1000 → Arr p y b → Ev (fun k => spec_RowArrayTimes.l1 k (b : Int) (-(n : Int)) (toI y) (toI p)) (toI (iter (backN p b) n y), true)
  | 0, y, h, a => Ev.step (fun _ => spec_RowArrayTimes.l1.eq_2 ..) (ev_neg (by omega) (Ev.now _))
  | n + 1, y, h, a => by
    refine Ev.step (fun _ => spec_RowArrayTimes.l1.eq_2 ..) (ev_pos (by omega) (Ev.bind (pcBack_ev g a hb) ?_))
    rw [wrap_id (by omega) (by omega), show (-((n + 1 : Nat) : Int) + 1) = -(n : Int) by omega]
    exact specRAT_l1 g hb n _ (by omega) (a.back g)
theorem specRAT_l0 {p : List Nat} {b : Nat} (g : Good p) (hb : b ≤ 20) : ∀ (n : Nat) (y : List Nat), n ≤ 1000 → Arr p y b → Ev (fun k => spec_RowArrayTimes.l0 k (b : Int) (n : Int) (toI y) (toI p)) (toI (iter (rowN p b) n y), true)
  | 0, y, h, a => Ev.step (fun _ => spec_RowArrayTimes.l0.eq_2 ..) (ev_neg (by omega) (specRAT_l1 g hb 0 y (by omega) a))
  | n + 1, y, h, a => by
    refine Ev.step (fun _ => spec_RowArrayTimes.l0.eq_2 ..) (ev_pos (by omega) (Ev.bind (pcRow_ev g a hb) ?_))
    rw [wrap_id (by omega) (by omega), show (((n + 1 : Nat) : Int) - 1) = (n : Int) by omega]
    exact specRAT_l0 g hb n _ (by omega) (a.row g)
theorem specRAT_l0' {p : List Nat} {b : Nat} (g : Good p) (hb : b ≤ 20) (n : Nat) (y : List Nat) (h : n ≤ 1000) (a : Arr p y b) : Ev (fun k => spec_RowArrayTimes.l0 k (b : Int) (-(n : Int)) (toI y) (toI p)) (toI (iter (backN p b) n y), true) :=
  Ev.step (fun _ => spec_RowArrayTimes.l0.eq_2 ..) (ev_neg (by omega) (specRAT_l1 g hb n y h a))
theorem implRAT_l0 {p : List Nat} {b : Nat} (g : Good p) (hb : b ≤ 20) (w : List Nat) (hw : ∀ e ∈ w, e < p.length) (hl : w.length ≤ 1000) (m : Nat) (hm : m ≤ 1000) : ∀ (d i : Nat) (y : List Nat), i + d = m → Arr p y b →
    Ev (fun k => impl_RowArrayTimes.l0 k (b : Int) (toI y) (toI w) (m : Int) (i : Int) (toI p)) (toI (iter (fun z => w.foldl (tgN p b) z) d y), true)
  | 0, i, y, h, a => Ev.step (fun _ => impl_RowArrayTimes.l0.eq_2 ..) (ev_neg (by omega) (Ev.now _))
  | d + 1, i, y, h, a => by
    refine Ev.step (fun _ => impl_RowArrayTimes.l0.eq_2 ..) (ev_pos (by omega) (Ev.bind (turn_ev g a hb w hw (by omega)) ?_))
    rw [wrap_succ (by omega)]
    exact implRAT_l0 g hb w hw hl m hm d (i + 1) _ (by omega) (Arr.fold g w y a)
theorem rowN_len (p : List Nat) (b : Nat) (y : List Nat) : (rowN p b y).length = y.length := fold_len p b _ y
theorem backN_len (p : List Nat) (b : Nat) (y : List Nat) : (backN p b y).length = y.length := fold_len p b _ y
theorem RAT_ev (l x : List Int) (b m : Int) (hl : l.length ≤ 1048576) (hx : x.length ≤ 1048576) : ∃ r : List Int × Bool, r.1.length ≤ 1000 ∧ Ev (fun k => spec_RowArrayTimes.f k l x b m) r ∧ Ev (fun k => impl_RowArrayTimes.f k l x b m) r ∧
    (arrayB l x b = false → r = ([], false)) ∧ (∀ p y c, l = toI p → x = toI y → b = ((c : Nat) : Int) → Good p → c ≤ 20 → Arr p y c → (m = 1 → r = (toI (rowN p c y), true)) ∧ (m = -1 → r = (toI (backN p c y), true))) := by
  by_cases h : arrayB l x b = true
  · obtain ⟨p, y, c, rfl, rfl, rfl, g, hc, a⟩ := arrayB_of h
    have hs := a.small g
    have gl := g.le
    by_cases h2 : inB m (-1000) 1000 = true
    · have b2 := inB_iff.mp h2
      have hcl := Clone_eq (toI y) (by rw [toI_len]; omega)
      have hown := l1Own_eq (toI y) (by rw [toI_len]; omega)
      by_cases hpos : 0 < m
      · obtain ⟨n, rfl⟩ : ∃ n : Nat, m = (n : Int) := ⟨m.toNat, by omega⟩
        refine ⟨(toI (iter (rowN p c) n y), true), by simp [iter_len (p := p) (b := c) (rowN_len p c)]; omega, ?_, ?_, by rw [h]; simp, ?_⟩
        · refine Ev.bind (pcIs_ev _ _ _) (ev_pos h (ev_call (l1In_eq _ _ _) ?_))
          rw [h2]
          exact Ev.step (fun _ => spec_RowArrayTimes.j0.eq_2 ..) (ev_neg (by simp) (ev_call hown (specRAT_l0 g hc n y (by omega) a)))
        · refine Ev.bind (isArray_ev _ _ _) (ev_pos h (ev_call (within_eq _ _ _) ?_))
          rw [h2]
          refine Ev.step (fun _ => impl_RowArrayTimes.j0.eq_2 ..) (ev_neg (by simp) (ev_call hcl (ev_call (n_eq _) ?_)))
          rw [toI_len]
          refine Ev.bind (numbered_ev p.length (by omega)) (ev_pos (by omega) (Ev.bind (reverse_ev _ (by simp; omega)) (Ev.step (fun _ => impl_RowArrayTimes.j1.eq_2 ..) ?_)))
          have e : mx (n : Int) (wrap64 (-(n : Int))) = (n : Int) := by rw [wrap_id (by omega) (by omega)]; unfold mx; omega
          rw [e, toI_rev]
          exact implRAT_l0 g hc (List.range p.length).reverse (by simp) (by simp; omega) n (by omega) n 0 y (by omega) a
        · intro p' y' c' e1 e2 e3 _ _ _
          obtain rfl := toI_inj e1
          obtain rfl := toI_inj e2
          obtain rfl : c = c' := by omega
          exact ⟨fun e => by obtain rfl : n = 1 := by omega
                             rfl, fun e => by omega⟩
      · obtain ⟨n, rfl⟩ : ∃ n : Nat, m = -(n : Int) := ⟨(-m).toNat, by omega⟩
        refine ⟨(toI (iter (backN p c) n y), true), by simp [iter_len (p := p) (b := c) (backN_len p c)]; omega, ?_, ?_, by rw [h]; simp, ?_⟩
        · refine Ev.bind (pcIs_ev _ _ _) (ev_pos h (ev_call (l1In_eq _ _ _) ?_))
          rw [h2]
          exact Ev.step (fun _ => spec_RowArrayTimes.j0.eq_2 ..) (ev_neg (by simp) (ev_call hown (specRAT_l0' g hc n y (by omega) a)))
        · refine Ev.bind (isArray_ev _ _ _) (ev_pos h (ev_call (within_eq _ _ _) ?_))
          rw [h2]
          refine Ev.step (fun _ => impl_RowArrayTimes.j0.eq_2 ..) (ev_neg (by simp) (ev_call hcl (ev_call (n_eq _) ?_)))
          rw [toI_len]
          refine Ev.bind (numbered_ev p.length (by omega)) (ev_neg (by omega) (Ev.step (fun _ => impl_RowArrayTimes.j1.eq_2 ..) ?_))
          have e : mx (-(n : Int)) (wrap64 (- -(n : Int))) = (n : Int) := by rw [wrap_id (by omega) (by omega)]; unfold mx; split <;> omega
          rw [e]
          exact implRAT_l0 g hc (List.range p.length) (by simp) (by simp; omega) n (by omega) n 0 y (by omega) a
        · intro p' y' c' e1 e2 e3 _ _ _
          obtain rfl := toI_inj e1
          obtain rfl := toI_inj e2
          obtain rfl : c = c' := by omega
          exact ⟨fun e => by omega, fun e => by obtain rfl : n = 1 := by omega
                                                rfl⟩
    · refine ⟨([], false), by simp, ?_, ?_, by simp, fun _ _ _ _ _ _ _ _ _ => ⟨fun e => by subst e; exact absurd (by decide) h2, fun e => by subst e; exact absurd (by decide) h2⟩⟩
      · refine Ev.bind (pcIs_ev _ _ _) (ev_pos h (ev_call (l1In_eq _ _ _) ?_))
        rw [Bool.eq_false_iff.mpr h2]
        exact Ev.step (fun _ => spec_RowArrayTimes.j0.eq_2 ..) (ev_pos rfl (Ev.now _))
      · refine Ev.bind (isArray_ev _ _ _) (ev_pos h (ev_call (within_eq _ _ _) ?_))
        rw [Bool.eq_false_iff.mpr h2]
        exact Ev.step (fun _ => impl_RowArrayTimes.j0.eq_2 ..) (ev_pos rfl (Ev.now _))
  · refine ⟨([], false), by simp, Ev.bind (pcIs_ev _ _ _) (ev_neg h ?_), Ev.bind (isArray_ev _ _ _) (ev_neg h ?_), by simp, fun p y c e1 e2 e3 g hc a => ?_⟩
    · exact Ev.step (fun _ => spec_RowArrayTimes.j0.eq_2 ..) (ev_pos rfl (Ev.now _))
    · exact Ev.step (fun _ => impl_RowArrayTimes.j0.eq_2 ..) (ev_pos rfl (Ev.now _))
    · exact absurd (by rw [e1, e2, e3]; exact arrayB_mk g hc a) h
theorem agree_FnExactRowArrayTimes (l x : List Int) (b m : Int) (hl : l.length ≤ 1048576) (hx : x.length ≤ 1048576) : ∃ r : List Int × Bool, r.1.length ≤ 1000 ∧ Ev (fun k => spec_RowArrayTimes.f k l x b m) r ∧ Ev (fun k => impl_RowArrayTimes.f k l x b m) r := by
  obtain ⟨r, h1, h2, h3, _⟩ := RAT_ev l x b m hl hx
  exact ⟨r, h1, h2, h3⟩
theorem agree_FnExactRowArray (l x : List Int) (b : Int) (hl : l.length ≤ 1048576) (hx : x.length ≤ 1048576) : ∃ r : List Int × Bool, r.1.length ≤ 1000 ∧ Ev (fun k => spec_RowArray.f k l x b) r ∧ Ev (fun k => impl_RowArray.f k l x b) r := by
  obtain ⟨r, h1, _, h3, h4, h5⟩ := RAT_ev l x b 1 hl hx
  refine ⟨r, h1, ?_, Ev.bind h3 (Ev.now _)⟩
  by_cases h : arrayB l x b = true
  · obtain ⟨p, y, c, rfl, rfl, rfl, g, hc, a⟩ := arrayB_of h
    rw [(h5 p y c rfl rfl rfl g hc a).1 rfl]
    exact Ev.bind (pcIs_ev _ _ _) (ev_pos h (Ev.bind (pcRow_ev g a hc) (Ev.now _)))
  · rw [h4 (Bool.eq_false_iff.mpr h)]
    exact Ev.bind (pcIs_ev _ _ _) (ev_neg h (Ev.now _))
theorem agree_FnExactRowArrayBack (l x : List Int) (b : Int) (hl : l.length ≤ 1048576) (hx : x.length ≤ 1048576) : ∃ r : List Int × Bool, r.1.length ≤ 1000 ∧ Ev (fun k => spec_RowArrayBack.f k l x b) r ∧ Ev (fun k => impl_RowArrayBack.f k l x b) r := by
  obtain ⟨r, h1, _, h3, h4, h5⟩ := RAT_ev l x b (-1) hl hx
  refine ⟨r, h1, ?_, Ev.bind h3 (Ev.now _)⟩
  by_cases h : arrayB l x b = true
  · obtain ⟨p, y, c, rfl, rfl, rfl, g, hc, a⟩ := arrayB_of h
    rw [(h5 p y c rfl rfl rfl g hc a).2 rfl]
    exact Ev.bind (pcIs_ev _ _ _) (ev_pos h (Ev.bind (pcBack_ev g a hc) (Ev.now _)))
  · rw [h4 (Bool.eq_false_iff.mpr h)]
    exact Ev.bind (pcIs_ev _ _ _) (ev_neg h (Ev.now _))
end Go.Proofs.Ytpcehliabaakeaa.M
end
section
namespace Go.Proofs.Ytpcehliabaakeaa.M
open Go.RowKit Go.Proofs.YtpcehliabaakeaaW.PrintWords Go.Proofs.YtpcehliabaakeaaW.PrintLast Go.Proofs.YtpcehliabaakeaaW.PrintMore Go.Proofs.Ytpcehliabaakeaa.L
theorem szIntS_eq (l : List Int) (h : l.length ≤ maxLen) : laws_szIntS.f l 1048576 = some (if 1048576 < l.length then -1 else 1048576 - (l.length : Int)) := by
  unfold maxLen at h
  unfold laws_szIntS.f
  rw [wrap_id (by omega) (by omega)]
  by_cases h2 : 1048576 < l.length
  · rw [if_pos (by omega), if_pos h2]
  · rw [if_neg (by omega), if_neg h2]
theorem szPoset_eq (l : List Int) (h : l.length ≤ maxLen) : laws_szPoset.f l 1048576 = some (if 1048576 < l.length then -1 else 1048576 - (l.length : Int)) := by
  unfold laws_szPoset.f
  rw [szIntS_eq l h, Option.bind_some]
  split
  · rfl
  · rw [if_neg (by omega)]
theorem toPoset_ev (l : List Int) (hl : l.length ≤ 35184372088832) : Ev (fun k => laws_toPoset.f k l) l := Ev.bind (toIntS_ev l hl) (Ev.now _)
theorem eqPoset_ev (a b : List Int) (hl : a.length ≤ 9223372036854775806) : Ev (fun k => laws_eqPoset.f k a b) (decide (a = b)) := by
  refine Ev.bind (eqIntS_ev a b hl) (ev_ite (fun e => ?_) (fun e => ?_))
  · rw [e]; exact Ev.now _
  · rw [Bool.eq_false_iff.mpr e]; exact Ev.now _
theorem eqPoset_refl (a : List Int) (hl : a.length ≤ 9223372036854775806) : Ev (fun k => laws_eqPoset.f k a a) true := by simpa using eqPoset_ev a a hl
theorem eqIntS_refl (a : List Int) (hl : a.length ≤ 9223372036854775806) : Ev (fun k => laws_eqIntS.f k a a) true := by simpa using eqIntS_ev a a hl
theorem markPoset_ev (l : List Int) (q : Nat) (hl : l.length ≤ 4611686018427387903) (hq : q ≤ 4611686018427387903) : Ev (fun k => laws_markPoset.f k l (q : Int)) (((q + l.length : Nat) : Int), marks q l.length) := Ev.bind (markIntS_ev l q hl hq) (Ev.now _)
end Go.Proofs.Ytpcehliabaakeaa.M
end
section
namespace Go.Proofs.Ytpcehliabaakeaa.Pure
open Go.RowKit Go.Proofs.YtpcehliabaakeaaW.PrintWords Go.Proofs.YtpcehliabaakeaaW.PrintLast Go.Proofs.YtpcehliabaakeaaW.PrintMore Go.Proofs.Ytpcehliabaakeaa.L Go.Proofs.Ytpcehliabaakeaa.M
theorem FnExactRowArrayTimes : laws_FnExactRowArrayTimes.Pure2 := by
  intro l0 l1 a2 a3 hm0 hw0 hm1 hw1 w2 w3
  refine Ev.rounds ?_
  by_cases b1 : (l1.length : Int) > 1048576
  · exact ev_pos b1 (Ev.now _)
  refine ev_neg b1 ?_
  refine ev_call (szPoset_eq l0 hm0) ?_
  by_cases b0 : 1048576 < l0.length
  · rw [if_pos b0]; exact ev_pos (by decide) (Ev.now _)
  rw [if_neg b0]
  refine ev_neg (by omega) ?_
  have T0 := toPoset_ev l0 (by omega)
  have E0 := eqPoset_refl l0 (by omega)
  have M0 := markPoset_ev l0 (1) (by omega) (by omega)
  have T1 := toIntS_ev l1 (by omega)
  have E1 := eqIntS_refl l1 (by omega)
  have M1 := markIntS_ev l1 (1 + l0.length) (by omega) (by omega)
  obtain ⟨r, hr, hs, hi⟩ := agree_FnExactRowArrayTimes l0 l1 a2 a3 (by omega) (by omega)
  have Er := eqIntS_refl r.1 (by omega)
  have Mr := markIntS_ev r.1 1 (by omega) (by omega)
  have Hr := heldIntS_ev 1 r.1.length (by omega) (by omega)
  repeat' first
    | with_reducible exact Ev.now true
    | with_reducible refine Ev.bind hs ?_
    | with_reducible refine Ev.bind hi ?_
    | with_reducible refine Ev.bind T0 ?_
    | with_reducible refine Ev.bind E0 ?_
    | with_reducible refine Ev.bind M0 ?_
    | with_reducible refine Ev.bind T1 ?_
    | with_reducible refine Ev.bind E1 ?_
    | with_reducible refine Ev.bind M1 ?_
    | with_reducible refine Ev.bind Er ?_
    | with_reducible refine Ev.bind Mr ?_
    | with_reducible refine Ev.bind Hr ?_
    | with_reducible refine Ev.step (fun _ => laws_FnExactRowArrayTimes.j0.eq_2 ..) ?_
    | with_reducible refine Ev.step (fun _ => laws_FnExactRowArrayTimes.j1.eq_2 ..) ?_
    | with_reducible refine Ev.step (fun _ => laws_FnExactRowArrayTimes.j2.eq_2 ..) ?_
    | with_reducible refine ev_pos rfl ?_
    | (with_reducible refine ev_neg ?h ?_; case h => first | (simp; done) | omega | (simp only; omega) | (simp; omega))
end Go.Proofs.Ytpcehliabaakeaa.Pure
end
section
namespace Go.Proofs.Ytpcehliabaakeaa.R
open Go.ChangeShapes Go.WideShapes Go.ChangeAt Go.RowKit
open Go.ChangeMaps (open_string shut_string)
set_option linter.unusedVariables false
def IsRow (k : IntKind) (w : World) (a : Option Addr) (len cap : Nat) (zs : List Int) : Prop :=
  (a = none ∧ len = 0 ∧ cap = 0 ∧ zs = []) ∨
  ∃ x, a = some x ∧ len ≤ cap ∧ cap ≤ maxLen ∧ zs.length = cap ∧ (∀ i, i < zs.length → w.cell? (x.add i) = some (.int k (zs.getD i 0))) ∧ ∀ n ∈ zs, (Lit.int k n).wf = true
variable {H : Type} {enc : TypeId × Value → H} {P : Program} {W : World} {base : Nat} {ps : List MemPlace}
theorem row_of {t e : TypeId} {k : IntKind} {fuel : Nat} {c : Value} {y : DataW H × List MemPlace} (hu : P.underlying t = some (.slice e)) (he : P.underlying e = some (.int k)) (hc : P.cellsOf e = 1)
    (hf : DataW.trod enc P W 0 (fun _ => true) true fuel t [c] = some y) : ∃ a len cap zs, c = .slice a len cap ∧ IsRow k W a len cap zs := by
  rcases open_ints hu he hc hf with ⟨hcs, _⟩ | ⟨x, l, c', zs, hcs, _, hl, hm, hz, _, hcell, hwz⟩
  · simp only [List.cons.injEq, and_true] at hcs
    subst hcs
    exact ⟨_, _, _, [], rfl, .inl ⟨rfl, rfl, rfl, rfl⟩⟩
  · simp only [List.cons.injEq, and_true] at hcs
    subst hcs
    exact ⟨_, _, _, zs, rfl, .inr ⟨_, rfl, hl, hm, by simpa using hz, hcell, hwz⟩⟩
theorem array1 {α : Type} {cs : Array α} (h : cs.size = 1) : ∃ c0, cs = #[c0] := by
  obtain ⟨l⟩ := cs
  match l, h with
  | [c0], _ => exact ⟨c0, rfl⟩
theorem open_poset {r : Reach} {t e : TypeId} {f : Field} {v : Value} {d : DataW H} (hs : P.underlying t = some (.struct #[f])) (ho : f.offset = 0) (hC : P.cellsOf t = 1) (hfc : P.cellsOf f.type = 1) (hu : P.underlying f.type = some (.slice e)) (he : P.underlying e = some (.int .i64)) (hc : P.cellsOf e = 1)
    (hv : Value.okWide P W r base t v) (h : DataW.Trod enc P W 0 (fun _ => true) true t v d ps) : ∃ a len cap zs, v = .agg #[.slice a len cap] ∧ IsRow .i64 W a len cap zs := by
  obtain ⟨cs, rfl, hsz⟩ := okWide_struct hs hv
  obtain ⟨c0, rfl⟩ := array1 (hsz.trans hC)
  obtain ⟨fuel, hf⟩ := h
  obtain ⟨y0, n, _, _, h0⟩ := trod_struct1 hs hf
  rw [ho, hfc] at h0
  obtain ⟨a, len, cap, zs, rfl, hz⟩ := row_of hu he hc (by simpa [Value.cells] using h0)
  exact ⟨a, len, cap, zs, rfl, hz⟩
theorem open_desk {r : Reach} {t e : TypeId} {f f1 g : Field} {v : Value} {d : DataW H} (hs : P.underlying t = some (.struct #[f, f1])) (ho : f.offset = 0) (ho1 : f1.offset = 1) (hC : P.cellsOf t = 2) (hfc : P.cellsOf f.type = 1) (hfc1 : P.cellsOf f1.type = 1)
    (hs2 : P.underlying f.type = some (.struct #[g])) (hgo : g.offset = 0) (hgc : P.cellsOf g.type = 1) (hu : P.underlying g.type = some (.slice e)) (he : P.underlying e = some (.int .i64)) (hc : P.cellsOf e = 1) (hi : P.underlying f1.type = some (.int .i64))
    (hv : Value.okWide P W r base t v) (h : DataW.Trod enc P W 0 (fun _ => true) true t v d ps) : ∃ a len cap zs x, v = .agg #[.slice a len cap, .int .i64 x] ∧ IsRow .i64 W a len cap zs ∧ (Lit.int .i64 x).wf = true := by
  obtain ⟨cs, rfl, hsz⟩ := okWide_struct hs hv
  obtain ⟨c0, c1, rfl⟩ := Joins.array2 (hsz.trans hC)
  obtain ⟨fuel, hf⟩ := h
  obtain ⟨y0, y1, n, _, _, h0, h1⟩ := trod_struct2 hs hf
  rw [ho, hfc] at h0
  rw [ho1, hfc1] at h1
  obtain ⟨z0, m, _, _, h00⟩ := trod_struct1 hs2 h0
  rw [hgo, hgc] at h00
  obtain ⟨a, len, cap, zs, rfl, hz⟩ := row_of hu he hc (by simpa [Value.cells] using h00)
  obtain ⟨x, e0, e1, wx⟩ := DataW.trod_int hi h1
  simp [Value.cells] at e0
  subst e0
  exact ⟨a, len, cap, zs, x, rfl, hz, wx⟩
end Go.Proofs.Ytpcehliabaakeaa.R
end
section
namespace Go.Proofs.Ytpcehliabaakeaa.fnExactRowArrayTimes
open Go.ChangeShapes Go.WideShapes Go.ChangeAt Go.RowKit Go.Proofs.YtpcehliabaakeaaW.PrintWords Go.Proofs.Ytpcehliabaakeaa.R
open Go.ChangeMaps (open_string shut_string)
set_option linter.unusedVariables false
theorem own : ownKnob Try.prog.godebug = none := by kernel_rfl
theorem laidOut : laidOutB Try.prog = true := by kernel_rfl
set_option maxRecDepth 100000 in
theorem lifted (os : Os) (started : os.Started) (H : Type) (enc : TypeId × Value → H) :
    ReturnsInHanded {} Try.checked os 10 .any (Rows.fnExactRowArrayTimesSpec.pre6 enc Try.prog Try.f10 Rows.fnExactRowArrayTimesRow.domain false) (Rows.fnExactRowArrayTimesSpec.post enc Try.prog Try.f10 false true false false) := by
  refine returnsInHanded_of_change_sized (C := Try.checked) own started (by kernel_rfl) Try.func10
    (ChangeSpec.witness6 (enc := enc) (C := Try.checked) false ⟨#[], #[.agg #[.slice none 0 0], .slice none 0 0, .int .i64 0, .int .i64 0], []⟩ 8 (by kernel_rfl) (by kernel_rfl) (by kernel_rfl) (by kernel_rfl)) ?_
  intro W base args ds gs before hval0 hW hcnd hsz0 _
  have hval : ∀ (j : Nat) t v, Try.f10.params[j]? = some t → args[j]? = some v → Value.okWide Try.prog W .any base t v := hval0
  have hW' := hW
  obtain ⟨p, q, hA0, hV, rfl, hfz, hnd⟩ := hW
  have hA : DataW.TrodAll enc Try.prog W 0 (fun _ => true) true Try.f10.params.toList args.toList ds p := hA0
  rw [Try.params10] at hA hval
  obtain ⟨v0, vs0, d0, ds0, p0, q0, hargs, rfl, rfl, h0, r0⟩ := trodAll_cons hA
  obtain ⟨v1, vs1, d1, ds1, p1, q1, rfl, rfl, rfl, h1, r1⟩ := trodAll_cons r0
  obtain ⟨v2, vs2, d2, ds2, p2, q2, rfl, rfl, rfl, h2, r2⟩ := trodAll_cons r1
  obtain ⟨v3, vs3, d3, ds3, p3, q3, rfl, rfl, rfl, h3, r3⟩ := trodAll_cons r2
  obtain ⟨rfl, rfl, rfl⟩ := trodAll_nil r3
  obtain rfl : args = #[v0, v1, v2, v3] := by cases args; simp_all
  obtain ⟨rfl, rfl⟩ := trodVars_none hV
  have k0 := h0
  have lt0 : ∀ x ∈ p0, x.block < W.heap.size := by obtain ⟨m, hm⟩ := k0; exact DataW.trod_lt m _ _ _ hm
  obtain ⟨A0, len0, cap0, z0, rfl, w0⟩ := open_poset Try.underlying24 rfl (by kernel_rfl) (by kernel_rfl) Try.underlying22 Try.underlying3 (by kernel_rfl) (hval 0 24 v0 rfl rfl) h0
  have k1 := h1
  have lt1 : ∀ x ∈ p1, x.block < W.heap.size := by obtain ⟨m, hm⟩ := k1; exact DataW.trod_lt m _ _ _ hm
  obtain ⟨A1, len1, cap1, rfl⟩ := okWide_slice Try.underlying22 (hval 1 22 v1 rfl rfl)
  obtain ⟨z1, w1⟩ : ∃ zs, IsRow .i64 W A1 len1 cap1 zs := by
    obtain ⟨fuel, hf⟩ := h1
    obtain ⟨a, l, c, zs, e, hz⟩ := row_of Try.underlying22 Try.underlying3 (by kernel_rfl) (by simpa [Value.cells] using hf)
    injection e with e1 e2 e3
    subst e1 e2 e3
    exact ⟨zs, hz⟩
  have k2 := h2
  have lt2 : ∀ x ∈ p2, x.block < W.heap.size := by obtain ⟨m, hm⟩ := k2; exact DataW.trod_lt m _ _ _ hm
  obtain ⟨a2, rfl, rfl, rfl, w2⟩ := open_int Try.underlying3 (hval 2 3 v2 rfl rfl) h2
  have k3 := h3
  have lt3 : ∀ x ∈ p3, x.block < W.heap.size := by obtain ⟨m, hm⟩ := k3; exact DataW.trod_lt m _ _ _ hm
  obtain ⟨a3, rfl, rfl, rfl, w3⟩ := open_int Try.underlying3 (hval 3 3 v3 rfl rfl) h3
  obtain ⟨l0, rfl, hr0, hm0, hw0, hc0⟩ := ReadsInt.ofRowC w0
  obtain ⟨l1, rfl, hr1, hm1, hw1, hc1⟩ := ReadsInt.ofRowC w1
  clear hA0 hval0 hsz0
  obtain ⟨k, hp⟩ := Pure.FnExactRowArrayTimes l0 l1 a2 a3 hm0 hw0 hm1 hw1 w2 w3
  refine (L.laws_FnExactRowArrayTimes.calls k _ _ l0 _ _ l1 a2 a3 true W (Kd.C_of_reads (d := (0 : Int)) (h1 := fun _ => rfl) hr0) hc0 (Kd.C_of_reads (d := (0 : Int)) (h1 := fun _ => rfl) hr1) hc1 hp).mono fun e W' ⟨he, hd⟩ => ?_
  have bel : Below W.heap.size W W' := hd
  subst he
  exact ⟨_, rfl, _, _, _, [], _, [], hW', trodAll_mk1 (shut_bool Try.underlying4 _), (trodAll_cons_mk (Below.trod laidOut (by kernel_rfl) (of_decide_eq_true (by kernel_rfl)) k0 bel lt0) (trodAll_cons_mk (Below.trod laidOut (by kernel_rfl) (of_decide_eq_true (by kernel_rfl)) k1 bel lt1) (trodAll_cons_mk (Below.trod laidOut (by kernel_rfl) (of_decide_eq_true (by kernel_rfl)) k2 bel lt2) (trodAll_cons_mk (Below.trod laidOut (by kernel_rfl) (of_decide_eq_true (by kernel_rfl)) k3 bel lt3) trodAll_mk0)))), rfl, bel.frame _, fun h => by cases h⟩
theorem over : Rows.fnExactRowArrayTimesRow.holds Try.pinned (OpenSpec.ofChange Rows.fnExactRowArrayTimesSpec) :=
  OpenClaim.holds_of_wide 10 Try.f10 rfl rfl rfl rfl rfl rfl rfl ⟨rfl, rfl, rfl, rfl, rfl⟩ rfl rfl rfl rfl rfl (by kernel_rfl) Try.func10 (by kernel_rfl)
    (of_decide_eq_true (by kernel_rfl)) (by unfold Func.isWrapper; first | (rw [if_pos (by decide +kernel)]; kernel_rfl) | (rw [if_neg (by decide +kernel)]; exact ⟨rfl, rfl⟩))
    (fun os started H enc _ => lifted os started H enc)
theorem proved : Rows.FnExactRowArrayTimesSaid := over
end Go.Proofs.Ytpcehliabaakeaa.fnExactRowArrayTimes
namespace Go.Proofs.Ytpcehliabaakeaa
theorem fnExactRowArrayTimes_holds : Rows.FnExactRowArrayTimesSaid := fnExactRowArrayTimes.proved
end Go.Proofs.Ytpcehliabaakeaa
end
