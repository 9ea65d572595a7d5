/- Laws about the given program: the law FnExactCountArrays answers true for every input that its row lets in; no condition is added to the given statement. Contracts of the Go functions that it reaches, and the plain proof over lists. -/
import Derived.Test.YtioibkdjcmkcpaaWFnExactCountArrays0
import Derived.Test.YtioibkdjcmkcpaaKFnExactCountArrays0
import Derived.Test.YtioibkdjcmkcpaaKFnExactCountArrays1
import Derived.Test.YtioibkdjcmkcpaaKFnExactCountArrays2
import Derived.Test.YtioibkdjcmkcpaaKFnExactCountArrays3
import Derived.Test.YtioibkdjcmkcpaaKFnExactCountArrays4
section
namespace Go.Proofs.Ytioibkdjcmkcpaa.M
open Go.RowKit Go.Proofs.YtioibkdjcmkcpaaW.PrintWords Go.Proofs.YtioibkdjcmkcpaaW.PrintLast Go.Proofs.YtioibkdjcmkcpaaW.PrintMore Go.Proofs.Ytioibkdjcmkcpaa.L
set_option linter.unusedVariables false
theorem has_eq {s e : Nat} (hs : s < 2 ^ 63) (he : e ≤ 64) : impl_has.f (s : Int) (e : Int) = some (s.testBit e) := by
  unfold impl_has.f; rw [if_pos (by omega), bit_and hs he]
theorem poIn_eq {s e : Nat} (he : e ≤ 64) : spec_poIn.f (s : Int) (e : Int) = some (s.testBit e) := by
  unfold spec_poIn.f; rw [if_pos (by omega), bit_mod he]
theorem items_l0 (s : Nat) (hs : s < 2 ^ 63) : ∀ (d i : Nat) (acc : List Nat), i + d = 10 → acc.length ≤ i → Ev (fun k => impl_items.l0 k (s : Int) (toI acc) (i : Int)) (toI (acc ++ (List.range' i d).filter fun e => s.testBit e))
  | 0, i, acc, h, ha => by
    refine Ev.step (fun _ => impl_items.l0.eq_2 ..) (ev_neg (by omega) ?_)
    simpa using Ev.now _
  | d + 1, i, acc, h, ha => by
    refine Ev.step (fun _ => impl_items.l0.eq_2 ..) (ev_pos (by omega) (ev_call (has_eq hs (by omega)) ?_))
    rw [wrap_succ (by omega), List.range'_succ]
    refine ev_ite (fun e => ev_pos (by rw [toI_len]; omega) ?_) (fun e => ?_)
    · rw [← toI_one, ← toI_app, List.filter_cons_of_pos e]
      have := items_l0 s hs d (i + 1) (acc ++ [i]) (by omega) (by simp; omega)
      simpa using this
    · rw [List.filter_cons_of_neg e]
      exact items_l0 s hs d (i + 1) acc (by omega) (by omega)
theorem items_ev {s : Nat} (hs : s < 2 ^ 63) : Ev (fun k => impl_items.f k (s : Int)) (toI (items s)) := by
  have h := items_l0 s hs 10 0 [] (by omega) (by simp)
  rw [List.nil_append, ← List.range_eq_range'] at h
  exact h
theorem n_eq (l : List Int) : impl_Poset_n.f l = some (l.length : Int) := rfl
theorem all_eq {p : List Nat} (h : p.length ≤ 10) : impl_Poset_all.f (toI p) = some ((full p : Nat) : Int) := by
  unfold impl_Poset_all.f
  rw [n_eq, Option.bind_some, if_pos (by omega), toI_len, shl_one' (by omega)]; rfl
theorem items_all {m i : Nat} (hm : m < 2 ^ i) (hi : i ≤ 10) (g : Nat → Bool) : (items m).all g = (List.range i).all fun j => !(m.testBit j) || g j := by
  rw [Bool.eq_iff_iff]
  simp only [List.all_eq_true, mem_items, List.mem_range, Bool.or_eq_true, Bool.not_eq_true']
  constructor
  · intro h j hj
    cases hb : m.testBit j
    · exact .inl rfl
    · exact .inr (h j ⟨by omega, hb⟩)
  · rintro h j ⟨_, hb⟩
    rcases h j (bit_lt hm hb) with h2 | h2
    · rw [hb] at h2; cases h2
    · exact h2
theorem pow_small {i : Nat} (h : i ≤ 10) : 2 ^ i ≤ 1024 := by
  have := Nat.pow_le_pow_right (n := 2) (by decide) h
  simpa using this
theorem rd_getD (l : List Int) (i : Nat) : rd l (i : Int) = l.getD i 0 := by simp [rd]
theorem isPoset_l1 (l : List Int) (i m : Nat) (R : Bool) (hl : l.length ≤ 10) (hi : i < l.length) (hm : m < 2 ^ i) (ok : ∀ j, j < i → ∃ a : Nat, l.getD j 0 = (a : Int) ∧ a < 2 ^ j)
    (hR : Ev (fun k => impl_IsPoset.l0 k l (l.length : Int) ((i + 1 : Nat) : Int) l) R) : ∀ (d q : Nat), q + d = (items m).length →
    Ev (fun k => impl_IsPoset.l1 k (m : Int) l (l.length : Int) (i : Int) (toI (items m)) ((toI (items m)).length : Int) (q : Int) l) (((items m).drop q).all (fun j => sd (l.getD j 0).toNat m == 0) && R)
  | 0, q, h => by
    refine Ev.step (fun _ => impl_IsPoset.l1.eq_2 ..) (ev_neg (by rw [toI_len]; omega) ?_)
    rw [List.drop_of_length_le (by omega), List.all_nil, Bool.true_and, wrap_succ (by omega)]
    exact hR
  | d + 1, q, h => by
    have hq : q < (items m).length := by omega
    have hj : (items m)[q] ∈ items m := List.getElem_mem hq
    obtain ⟨_, hb⟩ := mem_items.mp hj
    have hji := bit_lt hm hb
    obtain ⟨a, ha, ha2⟩ := ok _ hji
    have e1 : rd (toI (items m)) (q : Int) = (((items m)[q] : Nat) : Int) := by rw [rd_toI]; simp [List.getD_eq_getElem?_getD, hq]
    have hlen := items_len m
    have hp1 := pow_small (show i ≤ 10 by omega)
    have hp2 := pow_small (show (items m)[q] ≤ 10 by omega)
    refine Ev.step (fun _ => impl_IsPoset.l1.eq_2 ..) ?_
    rw [e1]
    refine ev_pos (by rw [toI_len]; omega) (ev_pos (by omega) (ev_pos (by rw [toI_len]; omega) (ev_pos (by omega) (ev_pos (by omega) ?_))))
    rw [rd_getD, ha, bits_andNot (lt63 ha2 (by omega)) (lt63 hm (by omega)), wrap_succ (by omega), List.drop_eq_getElem_cons hq, List.all_cons, ha, Int.toNat_natCast]
    refine ev_ite (fun e => ?_) (fun e => ?_)
    · have e' : sd a m = 0 := by omega
      rw [e', beq_self_eq_true, Bool.true_and]
      exact isPoset_l1 l i m R hl hi hm ok hR d (q + 1) (by omega)
    · have e' : (sd a m == 0) = false := by rw [beq_eq_false_iff_ne]; omega
      rw [e', Bool.false_and, Bool.false_and]
      exact Ev.now _
theorem isPoset_l0 (l : List Int) (hl : l.length ≤ 10) : ∀ (d i : Nat), i + d = l.length → (∀ j, j < i → ∃ a : Nat, l.getD j 0 = (a : Int) ∧ a < 2 ^ j) →
    Ev (fun k => impl_IsPoset.l0 k l (l.length : Int) (i : Int) l) ((List.range' i d).all (okAt l))
  | 0, i, h, ok => by
    refine Ev.step (fun _ => impl_IsPoset.l0.eq_2 ..) (ev_neg (by omega) ?_)
    exact Ev.now _
  | d + 1, i, h, ok => by
    have hp1 := pow_small (show i ≤ 10 by omega)
    have hpos := Nat.two_pow_pos i
    refine Ev.step (fun _ => impl_IsPoset.l0.eq_2 ..) (ev_pos (by omega) (ev_pos (by omega) (ev_pos (by omega) (ev_call (within_eq _ _ _) ?_))))
    rw [rd_getD, shl_one' (by omega), List.range'_succ, List.all_cons, okAt_def l i]
    refine ev_ite (fun e => ?_) (fun e => ?_)
    · have b := inB_iff.mp e
      obtain ⟨m, hm⟩ : ∃ m : Nat, l.getD i 0 = (m : Int) := ⟨(l.getD i 0).toNat, by omega⟩
      rw [e, Bool.true_and, hm]
      have hm2 : m < 2 ^ i := by omega
      refine Ev.bind (items_ev (lt63 hm2 (by omega))) ?_
      have hnx := isPoset_l0 l hl d (i + 1) (by omega) (fun j hj => by
        by_cases hji : j = i
        · subst hji; exact ⟨m, hm, hm2⟩
        · exact ok j (by omega))
      have := isPoset_l1 l i m _ hl (by omega) hm2 ok hnx (items m).length 0 (by omega)
      rw [List.drop_zero, items_all hm2 (by omega)] at this
      simpa using this
    · rw [Bool.eq_false_iff.mpr e, Bool.false_and, Bool.false_and]
      exact Ev.now _
theorem isPoset_ev (l : List Int) : Ev (fun k => impl_IsPoset.f k l) (goodB l) := by
  refine ev_call (n_eq l) (ev_call (within_eq _ _ _) ?_)
  unfold goodB
  refine ev_ite (fun e => ?_) (fun e => ?_)
  · have b := inB_iff.mp e
    rw [e, Bool.true_and]
    exact isPoset_l0 l (by omega) l.length 0 (by omega) (fun j hj => by omega)
  · rw [Bool.eq_false_iff.mpr e, Bool.false_and]; exact Ev.now _
theorem poGood_l1 (l : List Int) (i m : Nat) (R : Bool) (hl : l.length ≤ 10) (hi : i < l.length) (hm : m < 2 ^ i) (ok : ∀ j, j < i → ∃ a : Nat, l.getD j 0 = (a : Int) ∧ a < 2 ^ j)
    (hR : Ev (fun k => spec_poGood.l0 k l (l.length : Int) ((i + 1 : Nat) : Int) l) R) : ∀ (d j : Nat), j + d = i →
    Ev (fun k => spec_poGood.l1 k (i : Int) (m : Int) (j : Int) l (l.length : Int) (i : Int) l) ((List.range' j d).all (fun j => !(m.testBit j) || sd (l.getD j 0).toNat m == 0) && R)
  | 0, j, h => by
    refine Ev.step (fun _ => spec_poGood.l1.eq_2 ..) (ev_neg (by omega) ?_)
    rw [wrap_succ (by omega)]
    simpa using hR
  | d + 1, j, h => by
    obtain ⟨a, ha, ha2⟩ := ok j (by omega)
    have hp1 := pow_small (show i ≤ 10 by omega)
    have hp2 := pow_small (show j ≤ 10 by omega)
    have ih := poGood_l1 l i m R hl hi hm ok hR d (j + 1) (by omega)
    refine Ev.step (fun _ => spec_poGood.l1.eq_2 ..) (ev_pos (by omega) (ev_pos (by omega) ?_))
    rw [wrap_succ (by omega), List.range'_succ, List.all_cons, rd_getD, ha, bits_andNot (lt63 ha2 (by omega)) (lt63 hm (by omega)), Int.toNat_natCast]
    refine ev_ite (fun e => ?_) (fun e => ?_)
    · rw [bit_mod' (by omega)] at e
      rw [e, Bool.not_true, Bool.false_or]
      refine ev_pos (by omega) (ev_ite (fun e => ?_) (fun e => ?_))
      · have e' : sd a m = 0 := by omega
        rw [e', beq_self_eq_true, Bool.true_and]; exact ih
      · have e' : (sd a m == 0) = false := by rw [beq_eq_false_iff_ne]; omega
        rw [e', Bool.false_and, Bool.false_and]; exact Ev.now _
    · rw [bit_mod' (by omega)] at e
      rw [Bool.eq_false_iff.mpr e, Bool.not_false, Bool.true_or, Bool.true_and]; exact ih
theorem poGood_l0 (l : List Int) (hl : l.length ≤ 10) : ∀ (d i : Nat), i + d = l.length → (∀ j, j < i → ∃ a : Nat, l.getD j 0 = (a : Int) ∧ a < 2 ^ j) →
    Ev (fun k => spec_poGood.l0 k l (l.length : Int) (i : Int) l) ((List.range' i d).all (okAt l))
  | 0, i, h, ok => by
    refine Ev.step (fun _ => spec_poGood.l0.eq_2 ..) (ev_neg (by omega) ?_)
    exact Ev.now _
  | d + 1, i, h, ok => by
    have hp1 := pow_small (show i ≤ 10 by omega)
    have hpos := Nat.two_pow_pos i
    refine Ev.step (fun _ => spec_poGood.l0.eq_2 ..) (ev_pos (by omega) (ev_pos (by omega) (ev_pos (by omega) (ev_call (l1In_eq _ _ _) ?_))))
    rw [rd_getD, shl_one' (by omega), List.range'_succ, List.all_cons, okAt_def l i]
    refine ev_ite (fun e => ?_) (fun e => ?_)
    · have b := inB_iff.mp e
      obtain ⟨m, hm⟩ : ∃ m : Nat, l.getD i 0 = (m : Int) := ⟨(l.getD i 0).toNat, by omega⟩
      rw [e, Bool.true_and, hm]
      have hm2 : m < 2 ^ i := by omega
      have hnx := poGood_l0 l hl d (i + 1) (by omega) (fun j hj => by
        by_cases hji : j = i
        · subst hji; exact ⟨m, hm, hm2⟩
        · exact ok j (by omega))
      have := poGood_l1 l i m _ hl (by omega) hm2 ok hnx i 0 (by omega)
      simpa [List.range_eq_range'] using this
    · rw [Bool.eq_false_iff.mpr e, Bool.false_and, Bool.false_and]
      exact Ev.now _
theorem poGood_ev (l : List Int) : Ev (fun k => spec_poGood.f k l) (goodB l) := by
  refine ev_call (l1In_eq _ _ _) ?_
  unfold goodB
  refine ev_ite (fun e => ?_) (fun e => ?_)
  · have b := inB_iff.mp e
    rw [e, Bool.true_and]
    exact poGood_l0 l (by omega) l.length 0 (by omega) (fun j hj => by omega)
  · rw [Bool.eq_false_iff.mpr e, Bool.false_and]; exact Ev.now _
end Go.Proofs.Ytioibkdjcmkcpaa.M
end
section
namespace Go.Proofs.Ytioibkdjcmkcpaa.M
open Go.RowKit Go.Proofs.YtioibkdjcmkcpaaW.PrintWords Go.Proofs.YtioibkdjcmkcpaaW.PrintLast Go.Proofs.YtioibkdjcmkcpaaW.PrintMore Go.Proofs.Ytioibkdjcmkcpaa.L
set_option linter.unusedVariables false
theorem Good.len63 {p : List Nat} (g : Good p) {s : Nat} (h : s < 2 ^ p.length) : s < 2 ^ 63 := M.lt63 h (by have := g.le; omega)
theorem items_get {m q : Nat} (hq : q < (items m).length) : (items m)[q] < 10 ∧ m.testBit (items m)[q] = true := mem_items.mp (List.getElem_mem hq)
theorem rd_items {m q : Nat} (hq : q < (items m).length) : rd (toI (items m)) (q : Int) = (((items m)[q] : Nat) : Int) := by rw [rd_toI]; simp [List.getD_eq_getElem?_getD, hq]
theorem close_l0 {p : List Nat} (g : Good p) (s : Nat) (hs : s < 2 ^ p.length) : ∀ (d q a : Nat), q + d = (items s).length → a < 2 ^ p.length →
    Ev (fun k => impl_Poset_close.l0 k (a : Int) (toI (items s)) ((toI (items s)).length : Int) (q : Int) (toI p)) (((((items s).drop q).foldl (fun o e => o ||| less p e) a : Nat)) : Int)
  | 0, q, a, h, ha => by
    refine Ev.step (fun _ => impl_Poset_close.l0.eq_2 ..) (ev_neg (by rw [toI_len]; omega) ?_)
    rw [List.drop_of_length_le (by omega)]; exact Ev.now _
  | d + 1, q, a, h, ha => by
    have hq : q < (items s).length := by omega
    have hm := items_get hq
    have hb := bit_lt hs hm.2
    have hl := items_len s
    refine Ev.step (fun _ => impl_Poset_close.l0.eq_2 ..) ?_
    rw [rd_items hq, toI_len, toI_len]
    refine ev_pos (by omega) (ev_pos (by omega) (ev_pos (by omega) (ev_pos (by omega) (ev_pos (by omega) ?_))))
    rw [rd_less, bits_or (g.len63 ha) (g.lt63 _), wrap_succ (by omega), List.drop_eq_getElem_cons hq, List.foldl_cons, ← toI_len]
    exact close_l0 g s hs d (q + 1) _ (by omega) (Nat.or_lt_two_pow ha (g.lt10 _))
theorem close_ev {p : List Nat} (g : Good p) {s : Nat} (hs : s < 2 ^ p.length) : Ev (fun k => impl_Poset_close.f k (toI p) (s : Int)) ((close p s : Nat) : Int) := by
  refine Ev.bind (items_ev (g.len63 hs)) ?_
  have h := close_l0 g s hs (items s).length 0 s (by omega) hs
  rw [List.drop_zero, foldl_items_n _ _ hs g.le] at h
  exact h
theorem poIdeal_l0 {p : List Nat} (g : Good p) (s : Nat) (hs : s < 2 ^ p.length) : ∀ (d i : Nat), i + d = p.length →
    Ev (fun k => spec_poIdeal.l0 k (s : Int) (toI p) ((toI p).length : Int) (i : Int)) ((List.range' i d).all fun e => !(s.testBit e) || sd (less p e) s == 0)
  | 0, i, h => by
    refine Ev.step (fun _ => spec_poIdeal.l0.eq_2 ..) (ev_neg (by rw [toI_len]; omega) (Ev.now _))
  | d + 1, i, h => by
    have := g.le
    have ih := poIdeal_l0 g s hs d (i + 1) (by omega)
    refine Ev.step (fun _ => spec_poIdeal.l0.eq_2 ..) ?_
    refine ev_pos (by rw [toI_len]; omega) (ev_pos (by omega) (ev_pos (by rw [toI_len]; omega) (ev_call (poIn_eq (by omega)) ?_)))
    rw [rd_less, bits_andNot (g.lt63 _) (g.len63 hs), wrap_succ (by omega), List.range'_succ, List.all_cons]
    refine ev_ite (fun e => ?_) (fun e => ?_)
    · rw [e, Bool.not_true, Bool.false_or]
      refine ev_ite (fun e => ?_) (fun e => ?_)
      · have e' : sd (less p i) s = 0 := by omega
        rw [e', beq_self_eq_true, Bool.true_and]; exact ih
      · have e' : (sd (less p i) s == 0) = false := by rw [beq_eq_false_iff_ne]; omega
        rw [e', Bool.false_and]; exact Ev.now _
    · rw [Bool.eq_false_iff.mpr e, Bool.not_false, Bool.true_or, Bool.true_and]; exact ih
theorem poIdeal_ev {p : List Nat} (g : Good p) {s : Nat} (hs : s < 2 ^ p.length) : Ev (fun k => spec_poIdeal.f k (toI p) (s : Int)) (idealB p s) := poIdeal_l0 g s hs p.length 0 (by omega)
end Go.Proofs.Ytioibkdjcmkcpaa.M
end
section
namespace Go.Proofs.Ytioibkdjcmkcpaa.M
open Go.RowKit Go.Proofs.YtioibkdjcmkcpaaW.PrintWords Go.Proofs.YtioibkdjcmkcpaaW.PrintLast Go.Proofs.YtioibkdjcmkcpaaW.PrintMore Go.Proofs.Ytioibkdjcmkcpaa.L
set_option linter.unusedVariables false
def tg (p : List Nat) (s e : Nat) : Nat := if idealB p (s ^^^ 2 ^ e) = true then s ^^^ 2 ^ e else s
theorem pow_lt' {p : List Nat} {e : Nat} (h : e < p.length) : 2 ^ e < 2 ^ p.length := Nat.pow_lt_pow_right (by decide) h
theorem tg_id {p : List Nat} {s e : Nat} (hs : IsId p s) (h : e < p.length) : IsId p (tg p s e) := by
  unfold tg; split
  · rename_i h2; exact (idealB_iff (Nat.xor_lt_two_pow hs.1 (pow_lt' h))).mp h2
  · exact hs
theorem xor_bit (s e i : Nat) : (s ^^^ 2 ^ e).testBit i = (s.testBit i ^^ decide (e = i)) := by rw [Nat.testBit_xor, Nat.testBit_two_pow]
theorem xor_ne {s e i : Nat} (h : e ≠ i) : (s ^^^ 2 ^ e).testBit i = s.testBit i := by rw [xor_bit]; simp [h]
theorem xor_eq (s e : Nat) : (s ^^^ 2 ^ e).testBit e = !s.testBit e := by rw [xor_bit]; simp
def Can (p : List Nat) (s e : Nat) : Prop := (s.testBit e = true → ∀ f, s.testBit f = true → (less p f).testBit e = false) ∧ (s.testBit e = false → ∀ f, (less p e).testBit f = true → s.testBit f = true)
theorem can_iff {p : List Nat} (g : Good p) {s e : Nat} (hs : IsId p s) (he : e < p.length) : idealB p (s ^^^ 2 ^ e) = true ↔ Can p s e := by
  rw [idealB_iff (Nat.xor_lt_two_pow hs.1 (pow_lt' he))]
  constructor
  · rintro ⟨_, h⟩
    refine ⟨fun h1 f hf => ?_, fun h1 f hf => ?_⟩
    · apply Bool.eq_false_iff.mpr
      intro hc
      have b := g.bit hc
      have := h f (by rw [xor_ne (by omega)]; exact hf) e hc
      rw [xor_eq, h1] at this; cases this
    · have b := g.bit hf
      have := h e (by rw [xor_eq, h1]; rfl) f hf
      rwa [xor_ne (by omega)] at this
  · rintro ⟨h1, h2⟩
    refine ⟨Nat.xor_lt_two_pow hs.1 (pow_lt' he), fun f hf i hi => ?_⟩
    have b := g.bit hi
    by_cases c : e = f
    · subst c
      rw [xor_eq, Bool.not_eq_true'] at hf
      rw [xor_ne (by omega)]
      exact h2 hf i hi
    · rw [xor_ne c] at hf
      have hsi := hs.2 f hf i hi
      by_cases c2 : e = i
      · subst c2
        rw [h1 hsi f hf] at hi; cases hi
      · rw [xor_ne c2]; exact hsi
theorem tg_ne {p : List Nat} {s e i : Nat} (h : e ≠ i) : (tg p s e).testBit i = s.testBit i := by
  unfold tg; split
  · exact xor_ne h
  · rfl
theorem tg_eq {p : List Nat} (g : Good p) {s e : Nat} (hs : IsId p s) (he : e < p.length) : (tg p s e).testBit e = true ↔ (s.testBit e = true ∧ ∃ f, s.testBit f = true ∧ (less p f).testBit e = true) ∨ (s.testBit e = false ∧ ∀ f, (less p e).testBit f = true → s.testBit f = true) := by
  have hc := can_iff g hs he
  unfold tg
  cases hb : s.testBit e
  · by_cases c : idealB p (s ^^^ 2 ^ e) = true
    · rw [if_pos c, xor_eq, hb]
      exact ⟨fun _ => .inr ⟨rfl, (hc.mp c).2 hb⟩, fun _ => rfl⟩
    · rw [if_neg c, hb]
      refine ⟨fun h => (by cases h), fun h => ?_⟩
      rcases h with h | h
      · cases h.1
      · exact absurd (hc.mpr ⟨fun h1 => (by rw [hb] at h1; cases h1), fun _ => h.2⟩) c
  · by_cases c : idealB p (s ^^^ 2 ^ e) = true
    · rw [if_pos c, xor_eq, hb]
      refine ⟨fun h => (by cases h), fun h => ?_⟩
      rcases h with ⟨_, f, hf, hl⟩ | h
      · rw [(hc.mp c).1 hb f hf] at hl; cases hl
      · cases h.1
    · rw [if_neg c, hb]
      refine ⟨fun _ => .inl ⟨rfl, ?_⟩, fun _ => rfl⟩
      apply Classical.byContradiction
      intro hn
      refine c (hc.mpr ⟨fun _ f hf => ?_, fun h => by rw [hb] at h; cases h⟩)
      apply Bool.eq_false_iff.mpr
      intro hl
      exact hn ⟨f, hf, hl⟩
def bot (p : List Nat) (u : Nat) : Nat := foldBits p.length u (fun o e => if less p e &&& u = 0 then o ||| 2 ^ e else o) 0
theorem and_zero {a b : Nat} : a &&& b = 0 ↔ ∀ i, a.testBit i = true → b.testBit i = false := by
  constructor
  · intro h i hi
    have : (a &&& b).testBit i = false := by rw [h, Nat.zero_testBit]
    rw [Nat.testBit_and, hi, Bool.true_and] at this; exact this
  · intro h
    apply Nat.eq_of_testBit_eq
    intro i
    rw [Nat.testBit_and, Nat.zero_testBit]
    cases ha : a.testBit i
    · rfl
    · rw [h i ha]; rfl
theorem foldPut_bit (c : Nat → Prop) [DecidablePred c] (u a i : Nat) : ∀ n, (foldBits n u (fun o e => if c e then o ||| 2 ^ e else o) a).testBit i = true ↔ (a.testBit i = true ∨ (i < n ∧ u.testBit i = true ∧ c i))
  | 0 => by simp [foldBits]
  | n + 1 => by
    rw [foldBits_succ]
    have ih := foldPut_bit c u a i n
    by_cases hu : u.testBit n = true
    · rw [if_pos hu]
      by_cases hc : c n
      · rw [if_pos hc, Nat.testBit_or, Bool.or_eq_true, ih, Nat.testBit_two_pow, decide_eq_true_eq]
        constructor
        · rintro ((h | ⟨h1, h2⟩) | h)
          · exact .inl h
          · exact .inr ⟨by omega, h2⟩
          · subst h; exact .inr ⟨by omega, hu, hc⟩
        · rintro (h | ⟨h1, h2⟩)
          · exact .inl (.inl h)
          · by_cases e : n = i
            · exact .inr e
            · exact .inl (.inr ⟨by omega, h2⟩)
      · rw [if_neg hc, ih]
        refine or_congr_right ⟨fun h => ⟨by omega, h.2⟩, fun h => ⟨?_, h.2⟩⟩
        have : i ≠ n := fun e => by subst e; exact hc h.2.2
        omega
    · rw [if_neg hu, ih]
      refine or_congr_right ⟨fun h => ⟨by omega, h.2⟩, fun h => ⟨?_, h.2⟩⟩
      have : i ≠ n := fun e => by subst e; exact hu h.2.1
      omega
theorem bot_bit {p : List Nat} {u : Nat} (hu : u < 2 ^ p.length) (i : Nat) : (bot p u).testBit i = true ↔ u.testBit i = true ∧ ∀ j, (less p i).testBit j = true → u.testBit j = false := by
  unfold bot
  rw [foldPut_bit (fun e => less p e &&& u = 0), Nat.zero_testBit]
  constructor
  · rintro (h | ⟨h1, h2, h3⟩)
    · cases h
    · exact ⟨h2, and_zero.mp h3⟩
  · rintro ⟨h1, h2⟩
    exact .inr ⟨bit_lt hu h1, h1, and_zero.mpr h2⟩
theorem put_lt {n : Nat} (c : Nat → Prop) [DecidablePred c] (u : Nat) : foldBits n u (fun o e => if c e then o ||| 2 ^ e else o) 0 < 2 ^ n :=
  foldBits_inv _ _ _ _ (· < 2 ^ n) (Nat.two_pow_pos _) (fun a e ha he _ => by
    split
    · exact Nat.or_lt_two_pow ha (Nat.pow_lt_pow_right (by decide) he)
    · exact ha)
theorem bot_lt {p : List Nat} (u : Nat) : bot p u < 2 ^ p.length := put_lt _ u
def row (p : List Nat) (s : Nat) : Nat := close p (bot p (sd (full p) s))
theorem co_lt {p : List Nat} (s : Nat) : sd (full p) s < 2 ^ p.length := sd_lt s (full_lt p)
theorem co_bit {p : List Nat} {s i : Nat} : (sd (full p) s).testBit i = true ↔ i < p.length ∧ s.testBit i = false := by
  rw [sd_bit, full_bit, Bool.and_eq_true, decide_eq_true_eq, Bool.not_eq_true']
theorem row_lt {p : List Nat} (g : Good p) (s : Nat) : row p s < 2 ^ p.length := close_lt g (bot_lt _)
theorem row_bit {p : List Nat} (g : Good p) {s : Nat} (hs : IsId p s) (i : Nat) : (row p s).testBit i = true ↔ ∃ e, e < p.length ∧ s.testBit e = false ∧ (∀ j, (less p e).testBit j = true → s.testBit j = true) ∧ (e = i ∨ (less p e).testBit i = true) := by
  unfold row
  rw [close_bit (bot_lt _)]
  have hb : ∀ e, (bot p (sd (full p) s)).testBit e = true ↔ e < p.length ∧ s.testBit e = false ∧ (∀ j, (less p e).testBit j = true → s.testBit j = true) := by
    intro e
    rw [bot_bit (co_lt s), co_bit, and_assoc]
    refine and_congr_right fun h1 => and_congr_right fun h2 => forall_congr' fun j => forall_congr' fun hj => ?_
    have b := g.bit hj
    rw [← Bool.not_eq_true, co_bit, not_and, Bool.not_eq_false]
    exact ⟨fun h => h (by omega), fun h _ => h⟩
  constructor
  · rintro (h | ⟨e, h, hl⟩)
    · have := (hb i).mp h
      exact ⟨i, this.1, this.2.1, this.2.2, .inl rfl⟩
    · have := (hb e).mp h
      exact ⟨e, this.1, this.2.1, this.2.2, .inr hl⟩
  · rintro ⟨e, h1, h2, h3, h4⟩
    rcases h4 with h4 | h4
    · subst h4; exact .inl ((hb e).mpr ⟨h1, h2, h3⟩)
    · exact .inr ⟨e, (hb e).mpr ⟨h1, h2, h3⟩, h4⟩
theorem row_id {p : List Nat} (g : Good p) {s : Nat} (hs : IsId p s) : IsId p (row p s) := by
  refine ⟨row_lt g s, fun e he i hi => ?_⟩
  rw [row_bit g hs] at he ⊢
  obtain ⟨f, h1, h2, h3, h4⟩ := he
  refine ⟨f, h1, h2, h3, .inr ?_⟩
  rcases h4 with h4 | h4
  · rw [h4]; exact hi
  · exact g.tr' h4 hi
structure Mid (p : List Nat) (s t : Nat) (P : Nat → Prop) (x : Nat) : Prop where
  id : IsId p x
  on : ∀ i, i < p.length → P i → x.testBit i = t.testBit i
  off : ∀ i, i < p.length → ¬ P i → x.testBit i = s.testBit i
theorem Mid.step {p : List Nat} {s t x i : Nat} {P Q : Nat → Prop} (I : Mid p s t P x) (hi : i < p.length) (hQ : ∀ k, k < p.length → (Q k ↔ P k ∨ k = i)) (h : (tg p x i).testBit i = t.testBit i) : Mid p s t Q (tg p x i) := by
  refine ⟨tg_id I.id hi, fun k hk hq => ?_, fun k hk hq => ?_⟩
  · by_cases c : i = k
    · subst c; exact h
    · rw [tg_ne c]
      rcases (hQ k hk).mp hq with h | h
      · exact I.on k hk h
      · exact absurd h.symm c
  · rw [tg_ne (fun c => hq ((hQ k hk).mpr (.inr c.symm)))]
    exact I.off k hk fun h => hq ((hQ k hk).mpr (.inl h))
theorem Mid.same {p : List Nat} {s t x : Nat} {P Q : Nat → Prop} (I : Mid p s t P x) (hQ : ∀ k, k < p.length → (Q k ↔ P k)) : Mid p s t Q x :=
  ⟨I.id, fun k hk h => I.on k hk ((hQ k hk).mp h), fun k hk h => I.off k hk fun h2 => h ((hQ k hk).mpr h2)⟩
theorem Mid.all {p : List Nat} {s t x : Nat} {P : Nat → Prop} (I : Mid p s t P x) (ht : t < 2 ^ p.length) (h : ∀ i, i < p.length → P i) : x = t := by
  apply Nat.eq_of_testBit_eq
  intro i
  by_cases hi : i < p.length
  · exact I.on i hi (h i hi)
  · have big : ∀ y, y < 2 ^ p.length → y.testBit i = false := fun y hy => Nat.testBit_lt_two_pow (Nat.lt_of_lt_of_le hy (Nat.pow_le_pow_right (by decide) (by omega)))
    rw [big x I.id.1, big t ht]
theorem Mid.none {p : List Nat} {s : Nat} (t : Nat) (hs : IsId p s) {P : Nat → Prop} (h : ∀ i, i < p.length → ¬ P i) : Mid p s t P s :=
  ⟨hs, fun i hi hp => absurd hp (h i hi), fun _ _ _ => rfl⟩
theorem Mid.row {p : List Nat} (g : Good p) {s x i : Nat} {P Q : Nat → Prop} (hs : IsId p s) (I : Mid p s (row p s) P x) (hi : i < p.length) (hP : ¬ P i) (up : ∀ k, (less p k).testBit i = true → P k)
    (dn : ∀ j, (less p i).testBit j = true → ¬ P j) (hQ : ∀ k, k < p.length → (Q k ↔ P k ∨ k = i)) : Mid p s (M.row p s) Q (tg p x i) := by
  refine I.step hi hQ ?_
  have xi := I.off i hi hP
  rw [Bool.eq_iff_iff, tg_eq g I.id hi, xi]
  cases hb : s.testBit i
  · constructor
    · rintro (h | ⟨_, h⟩)
      · cases h.1
      · rw [row_bit g hs]
        refine ⟨i, hi, hb, fun j hj => ?_, .inl rfl⟩
        have b := g.bit hj
        rw [← I.off j (by omega) (dn j hj)]; exact h j hj
    · intro h
      rw [row_bit g hs] at h
      obtain ⟨e, h1, h2, h3, h4⟩ := h
      refine .inr ⟨rfl, fun f hf => ?_⟩
      have b := g.bit hf
      rw [I.off f (by omega) (dn f hf)]
      rcases h4 with h4 | h4
      · rw [h4] at h3; exact h3 f hf
      · have := h3 i h4
        rw [hb] at this; cases this
  · constructor
    · rintro (⟨_, f, hf, hl⟩ | h)
      · have b := g.bit hl
        have := I.on f b.2 (up f hl)
        rw [hf] at this
        exact (row_id g hs).2 f this.symm i hl
      · cases h.1
    · intro h
      rw [row_bit g hs] at h
      obtain ⟨e, h1, h2, h3, h4⟩ := h
      rcases h4 with h4 | h4
      · subst h4; rw [hb] at h2; cases h2
      · refine .inl ⟨rfl, e, ?_, h4⟩
        rw [I.on e h1 (up e h4), row_bit g hs]
        exact ⟨e, h1, h2, h3, .inl rfl⟩
end Go.Proofs.Ytioibkdjcmkcpaa.M
end
section
namespace Go.Proofs.Ytioibkdjcmkcpaa.M
open Go.RowKit Go.Proofs.YtioibkdjcmkcpaaW.PrintWords Go.Proofs.YtioibkdjcmkcpaaW.PrintLast Go.Proofs.YtioibkdjcmkcpaaW.PrintMore Go.Proofs.Ytioibkdjcmkcpaa.L
set_option linter.unusedVariables false
theorem ev_all {α β : Type} {f : Nat → α → Option β} {r : α → β} : ∀ l : List α, (∀ x ∈ l, Ev (fun k => f k x) (r x)) → ∃ K, ∀ k, K ≤ k → ∀ x ∈ l, f k x = some (r x)
  | [], _ => ⟨0, fun _ _ x hx => absurd hx (by simp)⟩
  | a :: l, h => by
    obtain ⟨K, hK⟩ := ev_all l fun x hx => h x (List.mem_cons_of_mem _ hx)
    obtain ⟨K', hK'⟩ := h a List.mem_cons_self
    refine ⟨max K K', fun k hk x hx => ?_⟩
    rcases List.mem_cons.mp hx with e | hx
    · subst e; exact hK' k (by omega)
    · exact hK k (by omega) x hx
def idls (p : List Nat) : List Nat := (List.range (2 ^ p.length)).filter (idealB p)
theorem pow_le10 {p : List Nat} (g : Good p) : 2 ^ p.length ≤ 1024 := Nat.pow_le_pow_right (by omega) (show p.length ≤ 10 from g.le)
theorem idls_len {p : List Nat} (g : Good p) : (idls p).length ≤ 1024 := by
  unfold idls
  have := List.length_filter_le (idealB p) (List.range (2 ^ p.length))
  rw [List.length_range] at this
  exact Nat.le_trans this (pow_le10 g)
theorem mem_idls {p : List Nat} {s : Nat} : s ∈ idls p ↔ IsId p s := by
  unfold idls
  rw [List.mem_filter, List.mem_range]
  constructor
  · rintro ⟨h1, h2⟩; exact (idealB_iff h1).mp h2
  · intro h; exact ⟨h.1, (idealB_iff h.1).mpr h⟩
theorem idls_nodup (p : List Nat) : (idls p).Nodup := List.Pairwise.filter _ List.nodup_range
theorem poIdeals_l0 {p : List Nat} (g : Good p) : ∀ (d i : Nat) (acc : List Nat), i + d = 2 ^ p.length → acc.length ≤ i →
    Ev (fun k => spec_poIdeals.l0 k (toI acc) (i : Int) (toI p)) (toI (acc ++ (List.range' i d).filter (idealB p)))
  | 0, i, acc, h, ha => by
    refine Ev.step (fun _ => spec_poIdeals.l0.eq_2 ..) ?_
    have gl := g.le
    rw [toI_len, shl_one (by omega)]
    refine ev_neg (by omega) ?_
    rw [List.range'_zero, List.filter_nil, List.append_nil]
    exact Ev.now _
  | d + 1, i, acc, h, ha => by
    refine Ev.step (fun _ => spec_poIdeals.l0.eq_2 ..) ?_
    have gl := g.le
    have gp := pow_le10 g
    rw [toI_len, shl_one (by omega), List.range'_succ, List.filter_cons, wrap_succ (by omega)]
    refine ev_pos (by omega) (Ev.bind (poIdeal_ev g (show i < 2 ^ p.length by omega)) (ev_ite (fun e => ?_) (fun e => ?_)))
    · rw [if_pos e]
      refine ev_pos (by rw [toI_len]; omega) ?_
      rw [← toI_one, ← toI_app]
      have e2 := poIdeals_l0 g d (i + 1) (acc ++ [i]) (by omega) (by rw [List.length_append, List.length_singleton]; omega)
      rw [List.append_assoc] at e2
      exact e2
    · rw [if_neg e]
      exact poIdeals_l0 g d (i + 1) _ (by omega) (by omega)
theorem poIdeals_ev {p : List Nat} (g : Good p) : Ev (fun k => spec_poIdeals.f k (toI p)) (toI (idls p)) := by
  have := poIdeals_l0 g (2 ^ p.length) 0 [] (by omega) (Nat.le_refl 0)
  rw [List.nil_append, ← List.range_eq_range'] at this
  exact this
theorem sets_l0 {p : List Nat} (g : Good p) (i : Fn1) (hi : ∀ s : Nat, s < 2 ^ p.length → i.p (s : Int) = some (idealB p s)) (N : Nat) (hN : N = 2 ^ p.length) : ∀ (d q : Nat) (acc : List Nat), q + d = N → acc.length ≤ q →
    Ev (fun k => @impl_Poset_sets.l0 i k (toI acc) (N : Int) (q : Int)) (toI (acc ++ (List.range' q d).filter (idealB p)))
  | 0, q, acc, h, ha => by
    refine Ev.step (fun _ => @impl_Poset_sets.l0.eq_2 i ..) (ev_neg (by omega) ?_)
    rw [List.range'_zero, List.filter_nil, List.append_nil]
    exact Ev.now _
  | d + 1, q, acc, h, ha => by
    refine Ev.step (fun _ => @impl_Poset_sets.l0.eq_2 i ..) ?_
    have gp := pow_le10 g
    rw [← hN] at gp
    rw [List.range'_succ, List.filter_cons, wrap_succ (by omega)]
    refine ev_pos (by omega) (ev_call (hi q (by rw [← hN]; omega)) (ev_ite (fun e => ?_) (fun e => ?_)))
    · rw [if_pos e]
      refine ev_pos (by rw [toI_len]; omega) ?_
      rw [← toI_one, ← toI_app]
      have e2 := sets_l0 g i hi N hN d (q + 1) (acc ++ [q]) (by omega) (by rw [List.length_append, List.length_singleton]; omega)
      rw [List.append_assoc] at e2
      exact e2
    · rw [if_neg e]
      exact sets_l0 g i hi N hN d (q + 1) _ (by omega) (by omega)
theorem implIdeals_ev {p : List Nat} (g : Good p) : Ev (fun k => impl_Poset_ideals.f k (toI p)) (toI (idls p)) := by
  obtain ⟨K, hK⟩ := ev_all (f := fun k (s : Nat) => impl_Poset_close.f k (toI p) (s : Int)) (r := fun s => ((close p s : Nat) : Int)) (List.range (2 ^ p.length)) fun s hs => close_ev g (List.mem_range.mp hs)
  have hi : ∀ k, K ≤ k → ∀ s : Nat, s < 2 ^ p.length → (impl_Poset_ideals.inst k (toI p)).p (s : Int) = some (idealB p s) := by
    intro k hk s hs
    show (impl_Poset_close.f k (toI p) (s : Int)).map (· == (s : Int)) = some (idealB p s)
    rw [hK k hk s (List.mem_range.mpr hs), Option.map_some]
    refine congrArg some ?_
    rw [Bool.eq_iff_iff, beq_iff_eq, idealB_iff hs, ← close_eq_iff hs]
    omega
  obtain ⟨K', h⟩ := sets_l0 g _ (hi K (Nat.le_refl _)) _ rfl (2 ^ p.length) 0 [] (by omega) (Nat.le_refl 0)
  refine Ev.of (impl_Poset_ideals.mono _) (k := max K K') ?_
  unfold impl_Poset_ideals.f impl_Poset_sets.f
  have gl := g.le
  have e1 : wrap64 (((full p : Nat) : Int) + 1) = ((2 ^ p.length : Nat) : Int) := by
    have h2 := Nat.two_pow_pos p.length
    have gp := pow_le10 g
    unfold full
    rw [show (((2 ^ p.length - 1 : Nat) : Int) + 1) = ((2 ^ p.length : Nat) : Int) by omega]
    exact wrap_id (by omega) (by omega)
  rw [all_eq gl, Option.bind_some, e1]
  have h3 := h (max K K') (by omega)
  rw [List.nil_append, ← List.range_eq_range'] at h3
  refine impl_Poset_ideals.mono_i _ _ (fun s r hr => ?_) _ _ _ _ _ h3
  obtain ⟨v, hv, e⟩ := Option.map_eq_some_iff.mp hr
  exact Option.map_eq_some_iff.mpr ⟨v, at_rounds (impl_Poset_close.mono _ _) (show K ≤ max K K' by omega) hv, e⟩
end Go.Proofs.Ytioibkdjcmkcpaa.M
end
section
namespace Go.Proofs.Ytioibkdjcmkcpaa.L
open Go.RowKit Go.Proofs.YtioibkdjcmkcpaaW.PrintWords Go.Proofs.YtioibkdjcmkcpaaW.PrintLast Go.Proofs.YtioibkdjcmkcpaaW.PrintMore
attribute [local go_sem] max2_int min2_int max_two min_two max_three min_three max_four min_four
set_option linter.unusedVariables false
set_option linter.unusedSimpArgs false
mutual
def impl_Poset_areLabels.l0 : Nat → List Int → Int → Int → List Int → Int → Int → List Int → Option (Bool)
  | 0, _, _, _, _, _, _, _ => none
  | k + 1, x1, x2, x3, x18, x19, x20, x154000 => if x20 < x19 then (if 0 ≤ x20 then (if x20 < (x18.length : Int) then ((impl_within.f (rd x18 x20) 0 x2).bind fun t156 => (if t156 = true then (if x20 < (x154000.length : Int) then ((impl_items.f k (rd x154000 x20)).bind fun t158 => (impl_Poset_areLabels.l1 k x1 x2 x3 (rd x18 x20) x18 x19 x20 t158 (t158.length : Int) 0 x154000)) else (none)) else (some false))) else (none)) else (none)) else (some true)
def impl_Poset_areLabels.l1 : Nat → List Int → Int → Int → Int → List Int → Int → Int → List Int → Int → Int → List Int → Option (Bool)
  | 0, _, _, _, _, _, _, _, _, _, _, _ => none
  | k + 1, x1, x2, x3, x10, x18, x19, x20, x34, x35, x36, x154000 => if x36 < x35 then (if 0 ≤ x36 then (if x36 < (x34.length : Int) then (if 0 ≤ (rd x34 x36) then (if (rd x34 x36) < (x1.length : Int) then (if x10 < (wrap64 ((rd x1 (rd x34 x36)) + x3)) then (some false) else (impl_Poset_areLabels.l1 k x1 x2 x3 x10 x18 x19 x20 x34 x35 (wrap64 (x36 + 1)) x154000)) else (none)) else (none)) else (none)) else (none)) else (impl_Poset_areLabels.l0 k x1 x2 x3 x18 x19 (wrap64 (x20 + 1)) x154000)
end
def impl_Poset_areLabels.f (k : Nat) (l0_0 : List Int) (l1 : List Int) (a2 : Int) (a3 : Int) : Option (Bool) := (impl_Poset_n.f l0_0).bind fun t154 => (if (l1.length : Int) = t154 then (impl_Poset_areLabels.l0 k l1 a2 a3 l1 (l1.length : Int) 0 l0_0) else (some false))
theorem impl_Poset_areLabels.mono_l : ∀ k, (∀ y0 y1 y2 y3 y4 y5 y6, LeO (impl_Poset_areLabels.l0 k y0 y1 y2 y3 y4 y5 y6) (impl_Poset_areLabels.l0 (k + 1) y0 y1 y2 y3 y4 y5 y6)) ∧ (∀ y0 y1 y2 y3 y4 y5 y6 y7 y8 y9 y10, LeO (impl_Poset_areLabels.l1 k y0 y1 y2 y3 y4 y5 y6 y7 y8 y9 y10) (impl_Poset_areLabels.l1 (k + 1) y0 y1 y2 y3 y4 y5 y6 y7 y8 y9 y10))
  | 0 => ⟨fun _ _ _ _ _ _ _ r h => by simp [impl_Poset_areLabels.l0] at h, fun _ _ _ _ _ _ _ _ _ _ _ r h => by simp [impl_Poset_areLabels.l1] at h⟩
  | k + 1 => by
    obtain ⟨ih0, ih1⟩ := impl_Poset_areLabels.mono_l k
    refine ⟨?_, ?_⟩
    · intro y0 y1 y2 y3 y4 y5 y6
      unfold impl_Poset_areLabels.l0
      repeat' first
      | (with_reducible exact ih0 _ _ _ _ _ _ _)
      | (with_reducible exact ih1 _ _ _ _ _ _ _ _ _ _ _)
      | (with_reducible exact impl_items.mono _ _)
      | (with_reducible exact LeO.refl _)
      | (with_reducible exact LeO.none _)
      | (with_reducible refine LeO.ite ?_ ?_)
      | (with_reducible refine LeO.bind ?_ (fun _ => ?_))
      | exact ih0 _ _ _ _ _ _ _
      | exact ih1 _ _ _ _ _ _ _ _ _ _ _
      | exact impl_items.mono _ _
      | exact LeO.none _
      | refine LeO.ite ?_ ?_
      | refine LeO.bind ?_ (fun _ => ?_)
    · intro y0 y1 y2 y3 y4 y5 y6 y7 y8 y9 y10
      unfold impl_Poset_areLabels.l1
      repeat' first
      | (with_reducible exact ih0 _ _ _ _ _ _ _)
      | (with_reducible exact ih1 _ _ _ _ _ _ _ _ _ _ _)
      | (with_reducible exact impl_items.mono _ _)
      | (with_reducible exact LeO.refl _)
      | (with_reducible exact LeO.none _)
      | (with_reducible refine LeO.ite ?_ ?_)
      | (with_reducible refine LeO.bind ?_ (fun _ => ?_))
      | exact ih0 _ _ _ _ _ _ _
      | exact ih1 _ _ _ _ _ _ _ _ _ _ _
      | exact impl_items.mono _ _
      | exact LeO.none _
      | refine LeO.ite ?_ ?_
      | refine LeO.bind ?_ (fun _ => ?_)
theorem impl_Poset_areLabels.mono : ∀ a0 a1 a2 a3 k, LeO (impl_Poset_areLabels.f k a0 a1 a2 a3) (impl_Poset_areLabels.f (k + 1) a0 a1 a2 a3) := by
  intro a0 a1 a2 a3 k
  obtain ⟨ih0, ih1⟩ := impl_Poset_areLabels.mono_l k
  unfold impl_Poset_areLabels.f
  repeat' first
      | (with_reducible exact ih0 _ _ _ _ _ _ _)
      | (with_reducible exact ih1 _ _ _ _ _ _ _ _ _ _ _)
      | (with_reducible exact impl_items.mono _ _)
      | (with_reducible exact LeO.refl _)
      | (with_reducible exact LeO.none _)
      | (with_reducible refine LeO.ite ?_ ?_)
      | (with_reducible refine LeO.bind ?_ (fun _ => ?_))
      | exact ih0 _ _ _ _ _ _ _
      | exact ih1 _ _ _ _ _ _ _ _ _ _ _
      | exact impl_items.mono _ _
      | exact LeO.none _
      | refine LeO.ite ?_ ?_
      | refine LeO.bind ?_ (fun _ => ?_)
set_option maxHeartbeats 8000000 in
set_option maxRecDepth 100000 in
theorem impl_Poset_areLabels.calls (k : Nat) (A0_0 : Option Addr) (c0_0 : Nat) (l0_0 : List Int) (A1 : Option Addr) (c1 : Nat) (l1 : List Int) (a2 : Int) (a3 : Int) (r : Bool) (w : World) (hr0_0 : Kd.C (Kd.int .i64) w A0_0 l0_0.length l0_0) (hc0_0 : l0_0.length ≤ c0_0) (hr1 : Kd.C (Kd.int .i64) w A1 l1.length l1) (hc1 : l1.length ≤ c1) (h : impl_Poset_areLabels.f k l0_0 l1 a2 a3 = some r) :
    Calls Try.prog 53 #[.agg #[.slice A0_0 l0_0.length c0_0], .slice A1 l1.length c1, .int .i64 a2, .int .i64 a3] w fun e w' => e = .returned (.bool r) ∧ Below w.heap.size w w' := by
  have hu28 := Try.underlying28
  have HR0_0 := Aside0.mk hr0_0
  have HC0_0 := Aside0.mk hc0_0
  clear hr0_0 hc0_0
  have HR1 := Aside0.mk hr1
  have HC1 := Aside0.mk hc1
  clear hr1 hc1
  have HB := Aside0.mk (Below.refl w.heap.size w)
  have H : ((impl_Poset_n.f l0_0).bind fun t154 => (if (l1.length : Int) = t154 then (impl_Poset_areLabels.l0 k l1 a2 a3 l1 (l1.length : Int) 0 l0_0) else (some false))) = some r := h
  clear h
  replace H := Option.bind_eq_some_iff.mp H
  obtain ⟨t154, A50, H⟩ := H
  replace H : (if (l1.length : Int) = t154 then (impl_Poset_areLabels.l0 k l1 a2 a3 l1 (l1.length : Int) 0 l0_0) else (some false)) = some r := H
  have A5 := Aside0.mk A50
  clear A50
  by_cases c6 : (l1.length : Int) = t154
  · rw [if_pos c6] at H
    have c6b0 : ((l1.length : Int) == t154) = true := beq_iff_eq.mpr c6
    have c6b1 : ((l1.length : Int) != t154) = false := bne_eq_false_iff_eq.mpr c6
    clear c6
    have H' := Aside0.mk H
    clear H
    go_enter Try.func53, Try.ntmps53
    go_wp2_with (first | ((with_reducible refine gate_dst (N := 4) rfl ?_); refine box_event ?hg (N := 4) ?hd (cs := #[.slice A0_0 l0_0.length c0_0]) (t := 28) ?hr ?_; (case hd => rfl); (case hg => rfl); (case hr => first | (go_simp; done) | (go_simp; rfl)); intro gb153 hg w7 hbox hb; have n0_ := Aside0.mk (below_step (by repeat (first | (with_reducible first | exact HB.out | apply below_alloc | apply pw_below_drewN | apply below_drew1) | exact HB.out)) hb); have n1_ := Aside0.mk (hbox); have n2_ := Aside0.mk ((by rw [hg]; exact (below_size (by repeat (first | (with_reducible first | exact HB.out | apply below_alloc | apply pw_below_drewN | apply below_drew1) | exact HB.out))) : w.heap.size ≤ gb153)); have n3_ := Aside0.mk ((by rw [hg]; exact (below_size (by repeat (first | (with_reducible first | exact HB.out | apply below_alloc | apply pw_below_drewN | apply below_drew1) | exact HB.out))) : w.heap.size ≤ gb153)); clear HB; have HB := n0_; have BK153 := n1_; have GW153 := n2_; have GE153 := n3_; clear n0_ n1_ n2_ n3_; clear hb hbox hg; have hcz8_0 : w7.cell? ⟨gb153, 0, none⟩ = some (.slice A0_0 l0_0.length c0_0) := (blk_cell BK153.out 0).trans rfl; have hfz8_0 := blk_frozen BK153.out 0) | ((with_reducible refine gate_callee (f := 52) rfl ?_); refine goesL_ (some 16) rfl rfl Try.func52 (by kernel_rfl) rfl #[.agg #[.slice A0_0 l0_0.length c0_0]] rfl (by (try simp only [List.map_toArray, List.map_cons, List.map_nil]); first | done | rfl | (simp only [List.length_drop, List.length_take]; rfl)) ?_; (with_reducible refine (impl_Poset_n.calls _ _ l0_0 t154 _ ?side1 ?side2 A5.out).mono ?_); (case side1 => repeat (first | exact (Kd.C_below HR0_0.out HB.out) | (with_reducible refine Kd.C_alloc ?_ _) | (with_reducible refine Kd.C_drewN ?_ _) | (with_reducible refine Kd.C_drew ?_))); (case side2 => exact HC0_0.out); rintro e w9 ⟨rfl, hb⟩; refine ⟨_, rfl, ?_⟩; have n0_ := Aside0.mk (blk_below (g := gb153) (o := .cells #[.slice A0_0 l0_0.length c0_0] 28 (0, 0)) (by (with_reducible repeat (first | refine blk_drewN ?_ _ | refine blk_drew ?_ | refine blk_alloc ?_ _)); exact BK153.out) hb); have n1_ := Aside0.mk (below_step (by repeat (first | (with_reducible first | exact HB.out | apply below_alloc | apply pw_below_drewN | apply below_drew1 | refine below_set ?_ GE153.out) | exact HB.out)) hb); clear BK153; clear HB; have BK153 := n0_; have HB := n1_; clear n0_ n1_; (try clear hb); (try clear hb2); (try clear hk); (try clear hi)))
    go_loopg [20] k (fun kq v20 w' => ∃ (x20_1 : Int), v20 = .int .i64 x20_1 ∧ Aside0 (impl_Poset_areLabels.l0 kq l1 a2 a3 l1 (l1.length : Int) x20_1 l0_0 = some r) ∧ Aside0 (kq ≤ k) ∧ Aside0 (w'.heap[gb153]? = some (.cells #[(.slice A0_0 l0_0.length c0_0)] 28 (0, 0))) ∧ Aside0 (Below w.heap.size w w'))
    case atStart => exact ⟨(0), (by first | rfl | (simp; done) | (simp [*]; done)), H', ⟨Nat.le_refl _⟩, ⟨by (with_reducible repeat (first | refine blk_drewN ?_ _ | refine blk_drew ?_ | refine blk_alloc ?_ _)); exact BK153.out⟩, ⟨by repeat (first | (with_reducible first | exact HB.out | apply below_alloc | apply pw_below_drewN | apply below_drew1 | refine below_set ?_ GE153.out) | exact HB.out)⟩⟩
    case round =>
      clear H'
      try clear c1
      try clear p2
      try clear c5
      try clear c6
      try clear c6b0
      try clear c6b1
      try clear hcz8_0
      try clear hfz8_0
      obtain ⟨x20_1, rfl, HA, HK1, BK153, HB⟩ := hrel
      cases gk with
      | zero => exact absurd HA.out (by simp [impl_Poset_areLabels.l0])
      | succ k1 =>
        have H := HA.out
        clear HA
        simp only [impl_Poset_areLabels.l0] at H
        by_cases c10 : x20_1 < (l1.length : Int)
        · rw [if_pos c10] at H
          have c10b0 : decide (x20_1 < (l1.length : Int)) = true := decide_eq_true c10
          clear c10
          by_cases c11 : 0 ≤ x20_1
          · rw [if_pos c11] at H
            have c11b0 : decide (0 ≤ x20_1) = true := decide_eq_true c11
            clear c11
            by_cases c12 : x20_1 < (l1.length : Int)
            · rw [if_pos c12] at H
              have c12b0 : decide (x20_1 < (l1.length : Int)) = true := decide_eq_true c12
              clear c12
              replace H := Option.bind_eq_some_iff.mp H
              obtain ⟨t156, A130, H⟩ := H
              replace H : (if t156 = true then (if x20_1 < (l0_0.length : Int) then ((impl_items.f k1 (rd l0_0 x20_1)).bind fun t158 => (impl_Poset_areLabels.l1 k1 l1 a2 a3 (rd l1 x20_1) l1 (l1.length : Int) x20_1 t158 (t158.length : Int) 0 l0_0)) else (none)) else (some false)) = some r := H
              have A13 := Aside0.mk A130
              clear A130
              by_cases c14 : t156 = true
              · subst c14
                have H1 : (if x20_1 < (l0_0.length : Int) then ((impl_items.f k1 (rd l0_0 x20_1)).bind fun t158 => (impl_Poset_areLabels.l1 k1 l1 a2 a3 (rd l1 x20_1) l1 (l1.length : Int) x20_1 t158 (t158.length : Int) 0 l0_0)) else (none)) = some r := by rw [if_pos rfl] at H; exact H
                clear H
                have H := H1
                clear H1
                by_cases c15 : x20_1 < (l0_0.length : Int)
                · rw [if_pos c15] at H
                  have c15b0 : decide (x20_1 < (l0_0.length : Int)) = true := decide_eq_true c15
                  clear c15
                  replace H := Option.bind_eq_some_iff.mp H
                  obtain ⟨t158, A160, H⟩ := H
                  replace H : (impl_Poset_areLabels.l1 k1 l1 a2 a3 (rd l1 x20_1) l1 (l1.length : Int) x20_1 t158 (t158.length : Int) 0 l0_0) = some r := H
                  have A16 := Aside0.mk A160
                  clear A160
                  have H' := Aside0.mk H
                  clear H
                  have p155 : 0 ≤ (x20_1 : Int) := of_decide_eq_true (by first | (with_reducible assumption) | assumption)
                  have q155 : x20_1 < (l1.length : Int) := of_decide_eq_true (by first | (with_reducible assumption) | assumption)
                  obtain ⟨ad155, e155, hx155_0⟩ := Kd.at_int HR1.out x20_1 p155 q155
                  cases e155
                  replace hx155_0 := (HB.out.cell (World.block_lt_of_cell? w _ hx155_0)).trans hx155_0
                  replace p155 := eq_true p155
                  replace q155 := eq_true q155
                  go_wp2_with (first | ((with_reducible refine gate_callee (f := 59) rfl ?_); refine goesL_ (some 27) rfl rfl Try.func59 (by kernel_rfl) rfl #[.int .i64 (rd l1 x20_1), .int .i64 0, .int .i64 a2] rfl (by (try simp only [List.map_toArray, List.map_cons, List.map_nil]); first | done | rfl | (simp only [List.length_drop, List.length_take]; rfl)) ?_; (with_reducible refine (impl_within.calls (rd l1 x20_1) 0 a2 true _ A13.out).mono ?_); rintro e w' ⟨rfl, ⟨nd, rfl⟩⟩; refine ⟨_, rfl, ?_⟩; have hcz17_0 : wr.cell? ⟨gb153, 0, none⟩ = some (.slice A0_0 l0_0.length c0_0) := (blk_cell BK153.out 0).trans rfl; have hfz17_0 := blk_frozen BK153.out 0; have p157 : 0 ≤ (x20_1 : Int) := of_decide_eq_true (by first | (with_reducible assumption) | assumption); have q157 : x20_1 < (l0_0.length : Int) := of_decide_eq_true (by first | (with_reducible assumption) | assumption); obtain ⟨ad157, e157, hx157_0⟩ := Kd.at_int HR0_0.out x20_1 p157 q157; cases e157; replace hx157_0 := (HB.out.cell (World.block_lt_of_cell? w _ hx157_0)).trans hx157_0; replace p157 := eq_true p157; replace q157 := eq_true q157) | ((with_reducible refine gate_callee (f := 100) rfl ?_); refine goesL_ (some 34) rfl rfl Try.func100 (by kernel_rfl) rfl #[.int .i64 (rd l0_0 x20_1)] rfl (by (try simp only [List.map_toArray, List.map_cons, List.map_nil]); first | done | rfl | (simp only [List.length_drop, List.length_take]; rfl)) ?_; (with_reducible refine (impl_items.calls k1 (rd l0_0 x20_1) t158 _ A16.out).mono ?_); rintro e w18 ⟨v159, rfl, ho0, hb⟩; refine ⟨_, rfl, ?_⟩; have n0_ := Aside0.mk (Kd.R_lower ho0 (below_size (by repeat (first | (with_reducible first | exact HB.out | apply below_alloc | apply pw_below_drewN | apply below_drew1 | refine below_set ?_ GE153.out) | exact HB.out)))); have n1_ := Aside0.mk (blk_below (g := gb153) (o := .cells #[.slice (some ad157) l0_0.length c0_0] 28 (0, 0)) (by (with_reducible repeat (first | refine blk_drewN ?_ _ | refine blk_drew ?_ | refine blk_alloc ?_ _)); exact BK153.out) hb); have n2_ := Aside0.mk (below_step (by repeat (first | (with_reducible first | exact HB.out | apply below_alloc | apply pw_below_drewN | apply below_drew1 | refine below_set ?_ GE153.out) | exact HB.out)) hb); clear BK153; clear HB; have HO160 := n0_; have BK153 := n1_; have HB := n2_; clear n0_ n1_ n2_; (try clear hb); (try clear hb2); (try clear hk); (try clear hi); (try clear ho0); obtain ⟨Ao19, co19, eo19⟩ := Kd.R_slice HO160.out; subst eo19))
                  go_loopg [36] k1 (fun kq v36 w' => ∃ (x36_2 : Int), v36 = .int .i64 x36_2 ∧ Aside0 (impl_Poset_areLabels.l1 kq l1 a2 a3 (rd l1 x20_1) l1 (l1.length : Int) x20_1 t158 (t158.length : Int) x36_2 l0_0 = some r) ∧ Aside0 (kq ≤ k1) ∧ Aside0 (Kd.R (Kd.int .i64) 3 w' w.heap.size (fun _ => True) (.slice Ao19 t158.length co19) t158) ∧ Aside0 (w'.heap[gb153]? = some (.cells #[(.slice (some ad157) l0_0.length c0_0)] 28 (0, 0))) ∧ Aside0 (Below w.heap.size w w'))
                  case atStart => exact ⟨(0), (by first | rfl | (simp; done) | (simp [*]; done)), H', ⟨Nat.le_refl _⟩, ⟨by (with_reducible repeat (first | apply Kd.R_alloc | apply Kd.R_drewN | apply Kd.R_drew)); exact HO160.out⟩, ⟨by (with_reducible repeat (first | refine blk_drewN ?_ _ | refine blk_drew ?_ | refine blk_alloc ?_ _)); exact BK153.out⟩, ⟨by repeat (first | (with_reducible first | exact HB.out | apply below_alloc | apply pw_below_drewN | apply below_drew1 | refine below_set ?_ GE153.out) | exact HB.out)⟩⟩
                  case round =>
                    clear H'
                    try clear c1
                    try clear p1
                    try clear q1
                    try clear hx1
                    try clear p2
                    try clear c5
                    try clear c6
                    try clear c6b0
                    try clear c6b1
                    try clear c10
                    try clear c10b0
                    try clear c11
                    try clear c11b0
                    try clear c12
                    try clear c12b0
                    try clear c14
                    try clear c15
                    try clear c15b0
                    try clear p15
                    try clear q15
                    try clear hx15
                    try clear hcz17_0
                    try clear hcz8_0
                    try clear hfz17_0
                    try clear hfz8_0
                    try clear hx155_0
                    try clear hx157_0
                    try clear p155
                    try clear p157
                    try clear p2
                    try clear q155
                    try clear q157
                    obtain ⟨x36_2, rfl, HA, HK2, HO_34, BK153, HB⟩ := hrel
                    cases gk with
                    | zero => exact absurd HA.out (by simp [impl_Poset_areLabels.l1])
                    | succ k2 =>
                      have H := HA.out
                      clear HA
                      simp only [impl_Poset_areLabels.l1] at H
                      by_cases c20 : x36_2 < (t158.length : Int)
                      · rw [if_pos c20] at H
                        have c20b0 : decide (x36_2 < (t158.length : Int)) = true := decide_eq_true c20
                        clear c20
                        by_cases c21 : 0 ≤ x36_2
                        · rw [if_pos c21] at H
                          have c21b0 : decide (0 ≤ x36_2) = true := decide_eq_true c21
                          clear c21
                          by_cases c22 : x36_2 < (t158.length : Int)
                          · rw [if_pos c22] at H
                            have c22b0 : decide (x36_2 < (t158.length : Int)) = true := decide_eq_true c22
                            clear c22
                            by_cases c23 : 0 ≤ (rd t158 x36_2)
                            · rw [if_pos c23] at H
                              have c23b0 : decide (0 ≤ (rd t158 x36_2)) = true := decide_eq_true c23
                              clear c23
                              by_cases c24 : (rd t158 x36_2) < (l1.length : Int)
                              · rw [if_pos c24] at H
                                have c24b0 : decide ((rd t158 x36_2) < (l1.length : Int)) = true := decide_eq_true c24
                                clear c24
                                by_cases c25 : (rd l1 x20_1) < (wrap64 ((rd l1 (rd t158 x36_2)) + a3))
                                · rw [if_pos c25] at H
                                  have c25b0 : decide ((rd l1 x20_1) < (wrap64 ((rd l1 (rd t158 x36_2)) + a3))) = true := decide_eq_true c25
                                  clear c25
                                  obtain rfl := Option.some.inj H
                                  have p161 : 0 ≤ (x36_2 : Int) := of_decide_eq_true (by first | (with_reducible assumption) | assumption)
                                  have q161 : x36_2 < (t158.length : Int) := of_decide_eq_true (by first | (with_reducible assumption) | assumption)
                                  obtain ⟨ad161, e161, hx161_0⟩ := Kd.at_int (Kd.R_reads' HO_34.out).2.2 x36_2 p161 q161
                                  cases e161
                                  replace p161 := eq_true p161
                                  replace q161 := eq_true q161
                                  have p162 : 0 ≤ ((rd t158 x36_2) : Int) := of_decide_eq_true (by first | (with_reducible assumption) | assumption)
                                  have q162 : (rd t158 x36_2) < (l1.length : Int) := of_decide_eq_true (by first | (with_reducible assumption) | assumption)
                                  obtain ⟨ad162, e162, hx162_0⟩ := Kd.at_int HR1.out (rd t158 x36_2) p162 q162
                                  obtain rfl : ad155 = ad162 := (by injection e162)
                                  replace hx162_0 := (HB.out.cell (World.block_lt_of_cell? w _ hx162_0)).trans hx162_0
                                  replace p162 := eq_true p162
                                  replace q162 := eq_true q162
                                  go_wp2
                                  go_ret
                                  exact ⟨by first | rfl | (simp [errW_none, errW_some] <;> rfl) | (simp [*, errW_none, errW_some] <;> rfl), by repeat (first | (with_reducible first | exact HB.out | apply below_alloc | apply pw_below_drewN | apply below_drew1 | refine below_set ?_ GE153.out) | exact HB.out)⟩
                                · rw [if_neg c25] at H
                                  have c25b0 : decide ((rd l1 x20_1) < (wrap64 ((rd l1 (rd t158 x36_2)) + a3))) = false := decide_eq_false c25
                                  clear c25
                                  have H' := Aside0.mk H
                                  clear H
                                  have p161 : 0 ≤ (x36_2 : Int) := of_decide_eq_true (by first | (with_reducible assumption) | assumption)
                                  have q161 : x36_2 < (t158.length : Int) := of_decide_eq_true (by first | (with_reducible assumption) | assumption)
                                  obtain ⟨ad161, e161, hx161_0⟩ := Kd.at_int (Kd.R_reads' HO_34.out).2.2 x36_2 p161 q161
                                  cases e161
                                  replace p161 := eq_true p161
                                  replace q161 := eq_true q161
                                  have p162 : 0 ≤ ((rd t158 x36_2) : Int) := of_decide_eq_true (by first | (with_reducible assumption) | assumption)
                                  have q162 : (rd t158 x36_2) < (l1.length : Int) := of_decide_eq_true (by first | (with_reducible assumption) | assumption)
                                  obtain ⟨ad162, e162, hx162_0⟩ := Kd.at_int HR1.out (rd t158 x36_2) p162 q162
                                  obtain rfl : ad155 = ad162 := (by injection e162)
                                  replace hx162_0 := (HB.out.cell (World.block_lt_of_cell? w _ hx162_0)).trans hx162_0
                                  replace p162 := eq_true p162
                                  replace q162 := eq_true q162
                                  go_wp2
                                  go_roundg k2
                                  case measure => have := HK1.out; have := HK2.out; omega
                                  case rel => exact ⟨(wrap64 (x36_2 + 1)), (by first | rfl | (simp; done) | (simp [*]; done)), H', ⟨by have := HK1.out; have := HK2.out; omega⟩, ⟨by (with_reducible repeat (first | apply Kd.R_alloc | apply Kd.R_drewN | apply Kd.R_drew)); exact HO_34.out⟩, ⟨by (with_reducible repeat (first | refine blk_drewN ?_ _ | refine blk_drew ?_ | refine blk_alloc ?_ _)); exact BK153.out⟩, ⟨by repeat (first | (with_reducible first | exact HB.out | apply below_alloc | apply pw_below_drewN | apply below_drew1 | refine below_set ?_ GE153.out) | exact HB.out)⟩⟩
                              · rw [if_neg c24] at H
                                exact absurd H (by simp)
                            · rw [if_neg c23] at H
                              exact absurd H (by simp)
                          · rw [if_neg c22] at H
                            exact absurd H (by simp)
                        · rw [if_neg c21] at H
                          exact absurd H (by simp)
                      · rw [if_neg c20] at H
                        have c20b0 : decide (x36_2 < (t158.length : Int)) = false := decide_eq_false c20
                        clear c20
                        have H' := Aside0.mk H
                        clear H
                        go_wp2
                        go_roundg k2
                        case measure => have := HK1.out; have := HK2.out; omega
                        case rel => exact ⟨(wrap64 (x20_1 + 1)), (by first | rfl | (simp; done) | (simp [*]; done)), H', ⟨by have := HK1.out; have := HK2.out; omega⟩, ⟨by (with_reducible repeat (first | refine blk_drewN ?_ _ | refine blk_drew ?_ | refine blk_alloc ?_ _)); exact BK153.out⟩, ⟨by repeat (first | (with_reducible first | exact HB.out | apply below_alloc | apply pw_below_drewN | apply below_drew1 | refine below_set ?_ GE153.out) | exact HB.out)⟩⟩
                · rw [if_neg c15] at H
                  exact absurd H (by simp)
              · replace c14 := Bool.eq_false_iff.mpr c14
                subst c14
                have H1 : (some false) = some r := by rw [if_neg (show ¬ (false = true) by decide)] at H; exact H
                clear H
                have H := H1
                clear H1
                obtain rfl := Option.some.inj H
                have p155 : 0 ≤ (x20_1 : Int) := of_decide_eq_true (by first | (with_reducible assumption) | assumption)
                have q155 : x20_1 < (l1.length : Int) := of_decide_eq_true (by first | (with_reducible assumption) | assumption)
                obtain ⟨ad155, e155, hx155_0⟩ := Kd.at_int HR1.out x20_1 p155 q155
                cases e155
                replace hx155_0 := (HB.out.cell (World.block_lt_of_cell? w _ hx155_0)).trans hx155_0
                replace p155 := eq_true p155
                replace q155 := eq_true q155
                go_wp2_with (first | ((with_reducible refine gate_callee (f := 59) rfl ?_); refine goesL_ (some 27) rfl rfl Try.func59 (by kernel_rfl) rfl #[.int .i64 (rd l1 x20_1), .int .i64 0, .int .i64 a2] rfl (by (try simp only [List.map_toArray, List.map_cons, List.map_nil]); first | done | rfl | (simp only [List.length_drop, List.length_take]; rfl)) ?_; (with_reducible refine (impl_within.calls (rd l1 x20_1) 0 a2 false _ A13.out).mono ?_); rintro e w' ⟨rfl, ⟨nd, rfl⟩⟩; refine ⟨_, rfl, ?_⟩))
                go_ret
                exact ⟨by first | rfl | (simp [errW_none, errW_some] <;> rfl) | (simp [*, errW_none, errW_some] <;> rfl), by repeat (first | (with_reducible first | exact HB.out | apply below_alloc | apply pw_below_drewN | apply below_drew1 | refine below_set ?_ GE153.out) | exact HB.out)⟩
            · rw [if_neg c12] at H
              exact absurd H (by simp)
          · rw [if_neg c11] at H
            exact absurd H (by simp)
        · rw [if_neg c10] at H
          have c10b0 : decide (x20_1 < (l1.length : Int)) = false := decide_eq_false c10
          clear c10
          obtain rfl := Option.some.inj H
          go_wp2
          go_ret
          exact ⟨by first | rfl | (simp [errW_none, errW_some] <;> rfl) | (simp [*, errW_none, errW_some] <;> rfl), by repeat (first | (with_reducible first | exact HB.out | apply below_alloc | apply pw_below_drewN | apply below_drew1 | refine below_set ?_ GE153.out) | exact HB.out)⟩
  · rw [if_neg c6] at H
    have c6b0 : ((l1.length : Int) == t154) = false := beq_eq_false_iff_ne.mpr c6
    have c6b1 : ((l1.length : Int) != t154) = true := bne_iff_ne.mpr c6
    obtain rfl := Option.some.inj H
    go_enter Try.func53, Try.ntmps53
    go_wp2_with (first | ((with_reducible refine gate_dst (N := 4) rfl ?_); refine box_event ?hg (N := 4) ?hd (cs := #[.slice A0_0 l0_0.length c0_0]) (t := 28) ?hr ?_; (case hd => rfl); (case hg => rfl); (case hr => first | (go_simp; done) | (go_simp; rfl)); intro gb153 hg w26 hbox hb; have n0_ := Aside0.mk (below_step (by repeat (first | (with_reducible first | exact HB.out | apply below_alloc | apply pw_below_drewN | apply below_drew1) | exact HB.out)) hb); have n1_ := Aside0.mk (hbox); have n2_ := Aside0.mk ((by rw [hg]; exact (below_size (by repeat (first | (with_reducible first | exact HB.out | apply below_alloc | apply pw_below_drewN | apply below_drew1) | exact HB.out))) : w.heap.size ≤ gb153)); have n3_ := Aside0.mk ((by rw [hg]; exact (below_size (by repeat (first | (with_reducible first | exact HB.out | apply below_alloc | apply pw_below_drewN | apply below_drew1) | exact HB.out))) : w.heap.size ≤ gb153)); clear HB; have HB := n0_; have BK153 := n1_; have GW153 := n2_; have GE153 := n3_; clear n0_ n1_ n2_ n3_; clear hb hbox hg; have hcz27_0 : w26.cell? ⟨gb153, 0, none⟩ = some (.slice A0_0 l0_0.length c0_0) := (blk_cell BK153.out 0).trans rfl; have hfz27_0 := blk_frozen BK153.out 0) | ((with_reducible refine gate_callee (f := 52) rfl ?_); refine goesL_ (some 16) rfl rfl Try.func52 (by kernel_rfl) rfl #[.agg #[.slice A0_0 l0_0.length c0_0]] rfl (by (try simp only [List.map_toArray, List.map_cons, List.map_nil]); first | done | rfl | (simp only [List.length_drop, List.length_take]; rfl)) ?_; (with_reducible refine (impl_Poset_n.calls _ _ l0_0 t154 _ ?side1 ?side2 A5.out).mono ?_); (case side1 => repeat (first | exact (Kd.C_below HR0_0.out HB.out) | (with_reducible refine Kd.C_alloc ?_ _) | (with_reducible refine Kd.C_drewN ?_ _) | (with_reducible refine Kd.C_drew ?_))); (case side2 => exact HC0_0.out); rintro e w28 ⟨rfl, hb⟩; refine ⟨_, rfl, ?_⟩; have n0_ := Aside0.mk (blk_below (g := gb153) (o := .cells #[.slice A0_0 l0_0.length c0_0] 28 (0, 0)) (by (with_reducible repeat (first | refine blk_drewN ?_ _ | refine blk_drew ?_ | refine blk_alloc ?_ _)); exact BK153.out) hb); have n1_ := Aside0.mk (below_step (by repeat (first | (with_reducible first | exact HB.out | apply below_alloc | apply pw_below_drewN | apply below_drew1 | refine below_set ?_ GE153.out) | exact HB.out)) hb); clear BK153; clear HB; have BK153 := n0_; have HB := n1_; clear n0_ n1_; (try clear hb); (try clear hb2); (try clear hk); (try clear hi)))
    go_ret
    exact ⟨by first | rfl | (simp [errW_none, errW_some] <;> rfl) | (simp [*, errW_none, errW_some] <;> rfl), by repeat (first | (with_reducible first | exact HB.out | apply below_alloc | apply pw_below_drewN | apply below_drew1 | refine below_set ?_ GE153.out) | exact HB.out)⟩
end Go.Proofs.Ytioibkdjcmkcpaa.L
end
section
namespace Go.Proofs.Ytioibkdjcmkcpaa.L
open Go.RowKit Go.Proofs.YtioibkdjcmkcpaaW.PrintWords Go.Proofs.YtioibkdjcmkcpaaW.PrintLast Go.Proofs.YtioibkdjcmkcpaaW.PrintMore
attribute [local go_sem] max2_int min2_int max_two min_two max_three min_three max_four min_four
set_option linter.unusedVariables false
set_option linter.unusedSimpArgs false
mutual
def spec_pcRises.l0 : Nat → List Int → List Int → Int → Int → Option (Bool)
  | 0, _, _, _, _ => none
  | k + 1, x1, x15, x16, x17 => if x17 < x16 then (if 0 ≤ x17 then (if x17 < (x15.length : Int) then (spec_pcRises.l1 k x1 x17 (rd x15 x17) 0 x15 x16 x17) else (none)) else (none)) else (some true)
def spec_pcRises.l1 : Nat → List Int → Int → Int → Int → List Int → Int → Int → Option (Bool)
  | 0, _, _, _, _, _, _, _ => none
  | k + 1, x1, x7, x8, x9, x15, x16, x17 => if x9 < x7 then ((spec_poIn.f x8 x9).bind fun t114 => (if t114 = true then (if 0 ≤ x9 then (if x9 < (x1.length : Int) then (if 0 ≤ x7 then (if x7 < (x1.length : Int) then (if (rd x1 x9) > (rd x1 x7) then (some false) else (spec_pcRises.l1 k x1 x7 x8 (wrap64 (x9 + 1)) x15 x16 x17)) else (none)) else (none)) else (none)) else (none)) else (spec_pcRises.l1 k x1 x7 x8 (wrap64 (x9 + 1)) x15 x16 x17))) else (spec_pcRises.l0 k x1 x15 x16 (wrap64 (x17 + 1)))
end
def spec_pcRises.f (k : Nat) (l0_0 : List Int) (l1 : List Int) (a2 : Int) : Option (Bool) := (spec_l1All.f k l1 0 a2).bind fun t112 => (if t112 = true then (spec_pcRises.l0 k l1 l0_0 (l0_0.length : Int) 0) else (some false))
theorem spec_pcRises.mono_l : ∀ k, (∀ y0 y1 y2 y3, LeO (spec_pcRises.l0 k y0 y1 y2 y3) (spec_pcRises.l0 (k + 1) y0 y1 y2 y3)) ∧ (∀ y0 y1 y2 y3 y4 y5 y6, LeO (spec_pcRises.l1 k y0 y1 y2 y3 y4 y5 y6) (spec_pcRises.l1 (k + 1) y0 y1 y2 y3 y4 y5 y6))
  | 0 => ⟨fun _ _ _ _ r h => by simp [spec_pcRises.l0] at h, fun _ _ _ _ _ _ _ r h => by simp [spec_pcRises.l1] at h⟩
  | k + 1 => by
    obtain ⟨ih0, ih1⟩ := spec_pcRises.mono_l k
    refine ⟨?_, ?_⟩
    · intro y0 y1 y2 y3
      unfold spec_pcRises.l0
      repeat' first
      | (with_reducible exact ih0 _ _ _ _)
      | (with_reducible exact ih1 _ _ _ _ _ _ _)
      | (with_reducible exact spec_l1All.mono _ _ _ _)
      | (with_reducible exact LeO.refl _)
      | (with_reducible exact LeO.none _)
      | (with_reducible refine LeO.ite ?_ ?_)
      | (with_reducible refine LeO.bind ?_ (fun _ => ?_))
      | exact ih0 _ _ _ _
      | exact ih1 _ _ _ _ _ _ _
      | exact spec_l1All.mono _ _ _ _
      | exact LeO.none _
      | refine LeO.ite ?_ ?_
      | refine LeO.bind ?_ (fun _ => ?_)
    · intro y0 y1 y2 y3 y4 y5 y6
      unfold spec_pcRises.l1
      repeat' first
      | (with_reducible exact ih0 _ _ _ _)
      | (with_reducible exact ih1 _ _ _ _ _ _ _)
      | (with_reducible exact spec_l1All.mono _ _ _ _)
      | (with_reducible exact LeO.refl _)
      | (with_reducible exact LeO.none _)
      | (with_reducible refine LeO.ite ?_ ?_)
      | (with_reducible refine LeO.bind ?_ (fun _ => ?_))
      | exact ih0 _ _ _ _
      | exact ih1 _ _ _ _ _ _ _
      | exact spec_l1All.mono _ _ _ _
      | exact LeO.none _
      | refine LeO.ite ?_ ?_
      | refine LeO.bind ?_ (fun _ => ?_)
theorem spec_pcRises.mono : ∀ a0 a1 a2 k, LeO (spec_pcRises.f k a0 a1 a2) (spec_pcRises.f (k + 1) a0 a1 a2) := by
  intro a0 a1 a2 k
  obtain ⟨ih0, ih1⟩ := spec_pcRises.mono_l k
  unfold spec_pcRises.f
  repeat' first
      | (with_reducible exact ih0 _ _ _ _)
      | (with_reducible exact ih1 _ _ _ _ _ _ _)
      | (with_reducible exact spec_l1All.mono _ _ _ _)
      | (with_reducible exact LeO.refl _)
      | (with_reducible exact LeO.none _)
      | (with_reducible refine LeO.ite ?_ ?_)
      | (with_reducible refine LeO.bind ?_ (fun _ => ?_))
      | exact ih0 _ _ _ _
      | exact ih1 _ _ _ _ _ _ _
      | exact spec_l1All.mono _ _ _ _
      | exact LeO.none _
      | refine LeO.ite ?_ ?_
      | refine LeO.bind ?_ (fun _ => ?_)
set_option maxHeartbeats 8000000 in
set_option maxRecDepth 100000 in
theorem spec_pcRises.calls (k : Nat) (A0_0 : Option Addr) (c0_0 : Nat) (l0_0 : List Int) (A1 : Option Addr) (c1 : Nat) (l1 : List Int) (a2 : Int) (r : Bool) (w : World) (hr0_0 : Kd.C (Kd.int .i64) w A0_0 l0_0.length l0_0) (hc0_0 : l0_0.length ≤ c0_0) (hr1 : Kd.C (Kd.int .i64) w A1 l1.length l1) (hc1 : l1.length ≤ c1) (h : spec_pcRises.f k l0_0 l1 a2 = some r) :
    Calls Try.prog 50 #[.agg #[.slice A0_0 l0_0.length c0_0], .slice A1 l1.length c1, .int .i64 a2] w fun e w' => e = .returned (.bool r) ∧ Below w.heap.size w w' := by
  have hu28 := Try.underlying28
  have HR0_0 := Aside0.mk hr0_0
  have HC0_0 := Aside0.mk hc0_0
  clear hr0_0 hc0_0
  have HR1 := Aside0.mk hr1
  have HC1 := Aside0.mk hc1
  clear hr1 hc1
  have HB := Aside0.mk (Below.refl w.heap.size w)
  have H : ((spec_l1All.f k l1 0 a2).bind fun t112 => (if t112 = true then (spec_pcRises.l0 k l1 l0_0 (l0_0.length : Int) 0) else (some false))) = some r := h
  clear h
  replace H := Option.bind_eq_some_iff.mp H
  obtain ⟨t112, A40, H⟩ := H
  replace H : (if t112 = true then (spec_pcRises.l0 k l1 l0_0 (l0_0.length : Int) 0) else (some false)) = some r := H
  have A4 := Aside0.mk A40
  clear A40
  by_cases c5 : t112 = true
  · subst c5
    have H1 : (spec_pcRises.l0 k l1 l0_0 (l0_0.length : Int) 0) = some r := by rw [if_pos rfl] at H; exact H
    clear H
    have H := H1
    clear H1
    have H' := Aside0.mk H
    clear H
    go_enter Try.func50, Try.ntmps50
    go_wp2_with (first | ((with_reducible refine gate_dst (N := 3) rfl ?_); refine box_event ?hg (N := 3) ?hd (cs := #[.slice A0_0 l0_0.length c0_0]) (t := 28) ?hr ?_; (case hd => rfl); (case hg => rfl); (case hr => first | (go_simp; done) | (go_simp; rfl)); intro gb111 hg w6 hbox hb; have n0_ := Aside0.mk (below_step (by repeat (first | (with_reducible first | exact HB.out | apply below_alloc | apply pw_below_drewN | apply below_drew1) | exact HB.out)) hb); have n1_ := Aside0.mk (hbox); have n2_ := Aside0.mk ((by rw [hg]; exact (below_size (by repeat (first | (with_reducible first | exact HB.out | apply below_alloc | apply pw_below_drewN | apply below_drew1) | exact HB.out))) : w.heap.size ≤ gb111)); have n3_ := Aside0.mk ((by rw [hg]; exact (below_size (by repeat (first | (with_reducible first | exact HB.out | apply below_alloc | apply pw_below_drewN | apply below_drew1) | exact HB.out))) : w.heap.size ≤ gb111)); clear HB; have HB := n0_; have BK111 := n1_; have GW111 := n2_; have GE111 := n3_; clear n0_ n1_ n2_ n3_; clear hb hbox hg) | (go_at_call 98; (with_reducible refine (spec_l1All.calls k _ _ l1 0 a2 true _ ?side1 ?side2 A4.out).mono ?_); (case side1 => repeat (first | exact (Kd.C_below HR1.out HB.out) | (with_reducible refine Kd.C_alloc ?_ _) | (with_reducible refine Kd.C_drewN ?_ _) | (with_reducible refine Kd.C_drew ?_))); (case side2 => exact HC1.out); rintro e w' ⟨rfl, ⟨nd, rfl⟩⟩; (try first | exact ⟨rfl, _, World.drewN_drewN _ _ _⟩ | exact ⟨rfl, _, Eq.trans (World.drewN_drewN _ _ _) (congrArg (World.drewN _) (Nat.add_assoc _ _ _))⟩); have hcz7_0 : w6.cell? ⟨gb111, 0, none⟩ = some (.slice A0_0 l0_0.length c0_0) := (blk_cell BK111.out 0).trans rfl; have hfz7_0 := blk_frozen BK111.out 0))
    repeat (go_quiet (first | ((with_reducible refine gate_dst (N := 3) rfl ?_); refine box_event ?hg (N := 3) ?hd (cs := #[.slice A0_0 l0_0.length c0_0]) (t := 28) ?hr ?_; (case hd => rfl); (case hg => rfl); (case hr => first | (go_simp; done) | (go_simp; rfl)); intro gb111 hg w6 hbox hb; have n0_ := Aside0.mk (below_step (by repeat (first | (with_reducible first | exact HB.out | apply below_alloc | apply pw_below_drewN | apply below_drew1) | exact HB.out)) hb); have n1_ := Aside0.mk (hbox); have n2_ := Aside0.mk ((by rw [hg]; exact (below_size (by repeat (first | (with_reducible first | exact HB.out | apply below_alloc | apply pw_below_drewN | apply below_drew1) | exact HB.out))) : w.heap.size ≤ gb111)); have n3_ := Aside0.mk ((by rw [hg]; exact (below_size (by repeat (first | (with_reducible first | exact HB.out | apply below_alloc | apply pw_below_drewN | apply below_drew1) | exact HB.out))) : w.heap.size ≤ gb111)); clear HB; have HB := n0_; have BK111 := n1_; have GW111 := n2_; have GE111 := n3_; clear n0_ n1_ n2_ n3_; clear hb hbox hg) | (go_at_call 98; (with_reducible refine (spec_l1All.calls k _ _ l1 0 a2 true _ ?side1 ?side2 A4.out).mono ?_); (case side1 => repeat (first | exact (Kd.C_below HR1.out HB.out) | (with_reducible refine Kd.C_alloc ?_ _) | (with_reducible refine Kd.C_drewN ?_ _) | (with_reducible refine Kd.C_drew ?_))); (case side2 => exact HC1.out); rintro e w' ⟨rfl, ⟨nd, rfl⟩⟩; (try first | exact ⟨rfl, _, World.drewN_drewN _ _ _⟩ | exact ⟨rfl, _, Eq.trans (World.drewN_drewN _ _ _) (congrArg (World.drewN _) (Nat.add_assoc _ _ _))⟩); have hcz7_0 : w6.cell? ⟨gb111, 0, none⟩ = some (.slice A0_0 l0_0.length c0_0) := (blk_cell BK111.out 0).trans rfl; have hfz7_0 := blk_frozen BK111.out 0)); try go_wp2_with (first | ((with_reducible refine gate_dst (N := 3) rfl ?_); refine box_event ?hg (N := 3) ?hd (cs := #[.slice A0_0 l0_0.length c0_0]) (t := 28) ?hr ?_; (case hd => rfl); (case hg => rfl); (case hr => first | (go_simp; done) | (go_simp; rfl)); intro gb111 hg w6 hbox hb; have n0_ := Aside0.mk (below_step (by repeat (first | (with_reducible first | exact HB.out | apply below_alloc | apply pw_below_drewN | apply below_drew1) | exact HB.out)) hb); have n1_ := Aside0.mk (hbox); have n2_ := Aside0.mk ((by rw [hg]; exact (below_size (by repeat (first | (with_reducible first | exact HB.out | apply below_alloc | apply pw_below_drewN | apply below_drew1) | exact HB.out))) : w.heap.size ≤ gb111)); have n3_ := Aside0.mk ((by rw [hg]; exact (below_size (by repeat (first | (with_reducible first | exact HB.out | apply below_alloc | apply pw_below_drewN | apply below_drew1) | exact HB.out))) : w.heap.size ≤ gb111)); clear HB; have HB := n0_; have BK111 := n1_; have GW111 := n2_; have GE111 := n3_; clear n0_ n1_ n2_ n3_; clear hb hbox hg) | (go_at_call 98; (with_reducible refine (spec_l1All.calls k _ _ l1 0 a2 true _ ?side1 ?side2 A4.out).mono ?_); (case side1 => repeat (first | exact (Kd.C_below HR1.out HB.out) | (with_reducible refine Kd.C_alloc ?_ _) | (with_reducible refine Kd.C_drewN ?_ _) | (with_reducible refine Kd.C_drew ?_))); (case side2 => exact HC1.out); rintro e w' ⟨rfl, ⟨nd, rfl⟩⟩; (try first | exact ⟨rfl, _, World.drewN_drewN _ _ _⟩ | exact ⟨rfl, _, Eq.trans (World.drewN_drewN _ _ _) (congrArg (World.drewN _) (Nat.add_assoc _ _ _))⟩); have hcz7_0 : w6.cell? ⟨gb111, 0, none⟩ = some (.slice A0_0 l0_0.length c0_0) := (blk_cell BK111.out 0).trans rfl; have hfz7_0 := blk_frozen BK111.out 0)))
    go_loopg [17] k (fun kq v17 w' => ∃ (x17_1 : Int), v17 = .int .i64 x17_1 ∧ Aside0 (spec_pcRises.l0 kq l1 l0_0 (l0_0.length : Int) x17_1 = some r) ∧ Aside0 (kq ≤ k) ∧ Aside0 (w'.heap[gb111]? = some (.cells #[(.slice A0_0 l0_0.length c0_0)] 28 (0, 0))) ∧ Aside0 (Below w.heap.size w w'))
    case atStart => exact ⟨(0), (by first | rfl | (simp; done) | (simp [*]; done)), H', ⟨Nat.le_refl _⟩, ⟨by (with_reducible repeat (first | refine blk_drewN ?_ _ | refine blk_drew ?_ | refine blk_alloc ?_ _)); exact BK111.out⟩, ⟨by repeat (first | (with_reducible first | exact HB.out | apply below_alloc | apply pw_below_drewN | apply below_drew1 | refine below_set ?_ GE111.out) | exact HB.out)⟩⟩
    case round =>
      clear H'
      try clear c1
      try clear p2
      try clear c5
      try clear hcz7_0
      try clear hfz7_0
      obtain ⟨x17_1, rfl, HA, HK1, BK111, HB⟩ := hrel
      cases gk with
      | zero => exact absurd HA.out (by simp [spec_pcRises.l0])
      | succ k1 =>
        have H := HA.out
        clear HA
        simp only [spec_pcRises.l0] at H
        by_cases c8 : x17_1 < (l0_0.length : Int)
        · rw [if_pos c8] at H
          have c8b0 : decide (x17_1 < (l0_0.length : Int)) = true := decide_eq_true c8
          clear c8
          by_cases c9 : 0 ≤ x17_1
          · rw [if_pos c9] at H
            have c9b0 : decide (0 ≤ x17_1) = true := decide_eq_true c9
            clear c9
            by_cases c10 : x17_1 < (l0_0.length : Int)
            · rw [if_pos c10] at H
              have c10b0 : decide (x17_1 < (l0_0.length : Int)) = true := decide_eq_true c10
              clear c10
              have H' := Aside0.mk H
              clear H
              have p113 : 0 ≤ (x17_1 : Int) := of_decide_eq_true (by first | (with_reducible assumption) | assumption)
              have q113 : x17_1 < (l0_0.length : Int) := of_decide_eq_true (by first | (with_reducible assumption) | assumption)
              obtain ⟨ad113, e113, hx113_0⟩ := Kd.at_int HR0_0.out x17_1 p113 q113
              cases e113
              replace hx113_0 := (HB.out.cell (World.block_lt_of_cell? w _ hx113_0)).trans hx113_0
              replace p113 := eq_true p113
              replace q113 := eq_true q113
              go_wp2
              repeat (go_quiet (fail); try go_wp2)
              go_loopg [9] k1 (fun kq v9 w' => ∃ (x9_2 : Int), v9 = .int .i64 x9_2 ∧ Aside0 (spec_pcRises.l1 kq l1 x17_1 (rd l0_0 x17_1) x9_2 l0_0 (l0_0.length : Int) x17_1 = some r) ∧ Aside0 (kq ≤ k1) ∧ Aside0 (w'.heap[gb111]? = some (.cells #[(.slice (some ad113) l0_0.length c0_0)] 28 (0, 0))) ∧ Aside0 (Below w.heap.size w w'))
              case atStart => exact ⟨(0), (by first | rfl | (simp; done) | (simp [*]; done)), H', ⟨Nat.le_refl _⟩, ⟨by (with_reducible repeat (first | refine blk_drewN ?_ _ | refine blk_drew ?_ | refine blk_alloc ?_ _)); exact BK111.out⟩, ⟨by repeat (first | (with_reducible first | exact HB.out | apply below_alloc | apply pw_below_drewN | apply below_drew1 | refine below_set ?_ GE111.out) | exact HB.out)⟩⟩
              case round =>
                clear H'
                try clear c1
                try clear p1
                try clear q1
                try clear hx1
                try clear p2
                try clear c5
                try clear c8
                try clear c8b0
                try clear c9
                try clear c9b0
                try clear c10
                try clear c10b0
                try clear hcz7_0
                try clear hfz7_0
                try clear hx113_0
                try clear p113
                try clear p2
                try clear q113
                obtain ⟨x9_2, rfl, HA, HK2, BK111, HB⟩ := hrel
                cases gk with
                | zero => exact absurd HA.out (by simp [spec_pcRises.l1])
                | succ k2 =>
                  have H := HA.out
                  clear HA
                  simp only [spec_pcRises.l1] at H
                  by_cases c11 : x9_2 < x17_1
                  · rw [if_pos c11] at H
                    have c11b0 : decide (x9_2 < x17_1) = true := decide_eq_true c11
                    clear c11
                    replace H := Option.bind_eq_some_iff.mp H
                    obtain ⟨t114, A120, H⟩ := H
                    replace H : (if t114 = true then (if 0 ≤ x9_2 then (if x9_2 < (l1.length : Int) then (if 0 ≤ x17_1 then (if x17_1 < (l1.length : Int) then (if (rd l1 x9_2) > (rd l1 x17_1) then (some false) else (spec_pcRises.l1 k2 l1 x17_1 (rd l0_0 x17_1) (wrap64 (x9_2 + 1)) l0_0 (l0_0.length : Int) x17_1)) else (none)) else (none)) else (none)) else (none)) else (spec_pcRises.l1 k2 l1 x17_1 (rd l0_0 x17_1) (wrap64 (x9_2 + 1)) l0_0 (l0_0.length : Int) x17_1)) = some r := H
                    have A12 := Aside0.mk A120
                    clear A120
                    by_cases c13 : t114 = true
                    · subst c13
                      have H1 : (if 0 ≤ x9_2 then (if x9_2 < (l1.length : Int) then (if 0 ≤ x17_1 then (if x17_1 < (l1.length : Int) then (if (rd l1 x9_2) > (rd l1 x17_1) then (some false) else (spec_pcRises.l1 k2 l1 x17_1 (rd l0_0 x17_1) (wrap64 (x9_2 + 1)) l0_0 (l0_0.length : Int) x17_1)) else (none)) else (none)) else (none)) else (none)) = some r := by rw [if_pos rfl] at H; exact H
                      clear H
                      have H := H1
                      clear H1
                      by_cases c14 : 0 ≤ x9_2
                      · rw [if_pos c14] at H
                        have c14b0 : decide (0 ≤ x9_2) = true := decide_eq_true c14
                        clear c14
                        by_cases c15 : x9_2 < (l1.length : Int)
                        · rw [if_pos c15] at H
                          have c15b0 : decide (x9_2 < (l1.length : Int)) = true := decide_eq_true c15
                          clear c15
                          by_cases c16 : 0 ≤ x17_1
                          · rw [if_pos c16] at H
                            have c16b0 : decide (0 ≤ x17_1) = true := decide_eq_true c16
                            clear c16
                            by_cases c17 : x17_1 < (l1.length : Int)
                            · rw [if_pos c17] at H
                              have c17b0 : decide (x17_1 < (l1.length : Int)) = true := decide_eq_true c17
                              clear c17
                              by_cases c18 : (rd l1 x9_2) > (rd l1 x17_1)
                              · rw [if_pos c18] at H
                                have c18b0 : decide ((rd l1 x17_1) < (rd l1 x9_2)) = true := decide_eq_true c18
                                clear c18
                                obtain rfl := Option.some.inj H
                                go_wp2_with (first | (go_at_call 72; (with_reducible refine (spec_poIn.calls (rd l0_0 x17_1) x9_2 true _ A12.out).mono ?_); rintro e w' ⟨rfl, ⟨nd, rfl⟩⟩; (try first | exact ⟨rfl, _, World.drewN_drewN _ _ _⟩ | exact ⟨rfl, _, Eq.trans (World.drewN_drewN _ _ _) (congrArg (World.drewN _) (Nat.add_assoc _ _ _))⟩); have p115 : 0 ≤ (x9_2 : Int) := of_decide_eq_true (by first | (with_reducible assumption) | assumption); have q115 : x9_2 < (l1.length : Int) := of_decide_eq_true (by first | (with_reducible assumption) | assumption); obtain ⟨ad115, e115, hx115_0⟩ := Kd.at_int HR1.out x9_2 p115 q115; cases e115; replace hx115_0 := (HB.out.cell (World.block_lt_of_cell? w _ hx115_0)).trans hx115_0; replace p115 := eq_true p115; replace q115 := eq_true q115; have p116 : 0 ≤ (x17_1 : Int) := of_decide_eq_true (by first | (with_reducible assumption) | assumption); have q116 : x17_1 < (l1.length : Int) := of_decide_eq_true (by first | (with_reducible assumption) | assumption); obtain ⟨ad116, e116, hx116_0⟩ := Kd.at_int HR1.out x17_1 p116 q116; obtain rfl : ad115 = ad116 := (by injection e116); replace hx116_0 := (HB.out.cell (World.block_lt_of_cell? w _ hx116_0)).trans hx116_0; replace p116 := eq_true p116; replace q116 := eq_true q116))
                                repeat (go_quiet (first | (go_at_call 72; (with_reducible refine (spec_poIn.calls (rd l0_0 x17_1) x9_2 true _ A12.out).mono ?_); rintro e w' ⟨rfl, ⟨nd, rfl⟩⟩; (try first | exact ⟨rfl, _, World.drewN_drewN _ _ _⟩ | exact ⟨rfl, _, Eq.trans (World.drewN_drewN _ _ _) (congrArg (World.drewN _) (Nat.add_assoc _ _ _))⟩); have p115 : 0 ≤ (x9_2 : Int) := of_decide_eq_true (by first | (with_reducible assumption) | assumption); have q115 : x9_2 < (l1.length : Int) := of_decide_eq_true (by first | (with_reducible assumption) | assumption); obtain ⟨ad115, e115, hx115_0⟩ := Kd.at_int HR1.out x9_2 p115 q115; cases e115; replace hx115_0 := (HB.out.cell (World.block_lt_of_cell? w _ hx115_0)).trans hx115_0; replace p115 := eq_true p115; replace q115 := eq_true q115; have p116 : 0 ≤ (x17_1 : Int) := of_decide_eq_true (by first | (with_reducible assumption) | assumption); have q116 : x17_1 < (l1.length : Int) := of_decide_eq_true (by first | (with_reducible assumption) | assumption); obtain ⟨ad116, e116, hx116_0⟩ := Kd.at_int HR1.out x17_1 p116 q116; obtain rfl : ad115 = ad116 := (by injection e116); replace hx116_0 := (HB.out.cell (World.block_lt_of_cell? w _ hx116_0)).trans hx116_0; replace p116 := eq_true p116; replace q116 := eq_true q116)); try go_wp2_with (first | (go_at_call 72; (with_reducible refine (spec_poIn.calls (rd l0_0 x17_1) x9_2 true _ A12.out).mono ?_); rintro e w' ⟨rfl, ⟨nd, rfl⟩⟩; (try first | exact ⟨rfl, _, World.drewN_drewN _ _ _⟩ | exact ⟨rfl, _, Eq.trans (World.drewN_drewN _ _ _) (congrArg (World.drewN _) (Nat.add_assoc _ _ _))⟩); have p115 : 0 ≤ (x9_2 : Int) := of_decide_eq_true (by first | (with_reducible assumption) | assumption); have q115 : x9_2 < (l1.length : Int) := of_decide_eq_true (by first | (with_reducible assumption) | assumption); obtain ⟨ad115, e115, hx115_0⟩ := Kd.at_int HR1.out x9_2 p115 q115; cases e115; replace hx115_0 := (HB.out.cell (World.block_lt_of_cell? w _ hx115_0)).trans hx115_0; replace p115 := eq_true p115; replace q115 := eq_true q115; have p116 : 0 ≤ (x17_1 : Int) := of_decide_eq_true (by first | (with_reducible assumption) | assumption); have q116 : x17_1 < (l1.length : Int) := of_decide_eq_true (by first | (with_reducible assumption) | assumption); obtain ⟨ad116, e116, hx116_0⟩ := Kd.at_int HR1.out x17_1 p116 q116; obtain rfl : ad115 = ad116 := (by injection e116); replace hx116_0 := (HB.out.cell (World.block_lt_of_cell? w _ hx116_0)).trans hx116_0; replace p116 := eq_true p116; replace q116 := eq_true q116)))
                                go_ret
                                exact ⟨by first | rfl | (simp [errW_none, errW_some] <;> rfl) | (simp [*, errW_none, errW_some] <;> rfl), by repeat (first | (with_reducible first | exact HB.out | apply below_alloc | apply pw_below_drewN | apply below_drew1 | refine below_set ?_ GE111.out) | exact HB.out)⟩
                              · rw [if_neg c18] at H
                                have c18b0 : decide ((rd l1 x17_1) < (rd l1 x9_2)) = false := decide_eq_false c18
                                clear c18
                                have H' := Aside0.mk H
                                clear H
                                go_wp2_with (first | (go_at_call 72; (with_reducible refine (spec_poIn.calls (rd l0_0 x17_1) x9_2 true _ A12.out).mono ?_); rintro e w' ⟨rfl, ⟨nd, rfl⟩⟩; (try first | exact ⟨rfl, _, World.drewN_drewN _ _ _⟩ | exact ⟨rfl, _, Eq.trans (World.drewN_drewN _ _ _) (congrArg (World.drewN _) (Nat.add_assoc _ _ _))⟩); have p115 : 0 ≤ (x9_2 : Int) := of_decide_eq_true (by first | (with_reducible assumption) | assumption); have q115 : x9_2 < (l1.length : Int) := of_decide_eq_true (by first | (with_reducible assumption) | assumption); obtain ⟨ad115, e115, hx115_0⟩ := Kd.at_int HR1.out x9_2 p115 q115; cases e115; replace hx115_0 := (HB.out.cell (World.block_lt_of_cell? w _ hx115_0)).trans hx115_0; replace p115 := eq_true p115; replace q115 := eq_true q115; have p116 : 0 ≤ (x17_1 : Int) := of_decide_eq_true (by first | (with_reducible assumption) | assumption); have q116 : x17_1 < (l1.length : Int) := of_decide_eq_true (by first | (with_reducible assumption) | assumption); obtain ⟨ad116, e116, hx116_0⟩ := Kd.at_int HR1.out x17_1 p116 q116; obtain rfl : ad115 = ad116 := (by injection e116); replace hx116_0 := (HB.out.cell (World.block_lt_of_cell? w _ hx116_0)).trans hx116_0; replace p116 := eq_true p116; replace q116 := eq_true q116))
                                repeat (go_quiet (first | (go_at_call 72; (with_reducible refine (spec_poIn.calls (rd l0_0 x17_1) x9_2 true _ A12.out).mono ?_); rintro e w' ⟨rfl, ⟨nd, rfl⟩⟩; (try first | exact ⟨rfl, _, World.drewN_drewN _ _ _⟩ | exact ⟨rfl, _, Eq.trans (World.drewN_drewN _ _ _) (congrArg (World.drewN _) (Nat.add_assoc _ _ _))⟩); have p115 : 0 ≤ (x9_2 : Int) := of_decide_eq_true (by first | (with_reducible assumption) | assumption); have q115 : x9_2 < (l1.length : Int) := of_decide_eq_true (by first | (with_reducible assumption) | assumption); obtain ⟨ad115, e115, hx115_0⟩ := Kd.at_int HR1.out x9_2 p115 q115; cases e115; replace hx115_0 := (HB.out.cell (World.block_lt_of_cell? w _ hx115_0)).trans hx115_0; replace p115 := eq_true p115; replace q115 := eq_true q115; have p116 : 0 ≤ (x17_1 : Int) := of_decide_eq_true (by first | (with_reducible assumption) | assumption); have q116 : x17_1 < (l1.length : Int) := of_decide_eq_true (by first | (with_reducible assumption) | assumption); obtain ⟨ad116, e116, hx116_0⟩ := Kd.at_int HR1.out x17_1 p116 q116; obtain rfl : ad115 = ad116 := (by injection e116); replace hx116_0 := (HB.out.cell (World.block_lt_of_cell? w _ hx116_0)).trans hx116_0; replace p116 := eq_true p116; replace q116 := eq_true q116)); try go_wp2_with (first | (go_at_call 72; (with_reducible refine (spec_poIn.calls (rd l0_0 x17_1) x9_2 true _ A12.out).mono ?_); rintro e w' ⟨rfl, ⟨nd, rfl⟩⟩; (try first | exact ⟨rfl, _, World.drewN_drewN _ _ _⟩ | exact ⟨rfl, _, Eq.trans (World.drewN_drewN _ _ _) (congrArg (World.drewN _) (Nat.add_assoc _ _ _))⟩); have p115 : 0 ≤ (x9_2 : Int) := of_decide_eq_true (by first | (with_reducible assumption) | assumption); have q115 : x9_2 < (l1.length : Int) := of_decide_eq_true (by first | (with_reducible assumption) | assumption); obtain ⟨ad115, e115, hx115_0⟩ := Kd.at_int HR1.out x9_2 p115 q115; cases e115; replace hx115_0 := (HB.out.cell (World.block_lt_of_cell? w _ hx115_0)).trans hx115_0; replace p115 := eq_true p115; replace q115 := eq_true q115; have p116 : 0 ≤ (x17_1 : Int) := of_decide_eq_true (by first | (with_reducible assumption) | assumption); have q116 : x17_1 < (l1.length : Int) := of_decide_eq_true (by first | (with_reducible assumption) | assumption); obtain ⟨ad116, e116, hx116_0⟩ := Kd.at_int HR1.out x17_1 p116 q116; obtain rfl : ad115 = ad116 := (by injection e116); replace hx116_0 := (HB.out.cell (World.block_lt_of_cell? w _ hx116_0)).trans hx116_0; replace p116 := eq_true p116; replace q116 := eq_true q116)))
                                go_roundg k2
                                case measure => have := HK1.out; have := HK2.out; omega
                                case rel => exact ⟨(wrap64 (x9_2 + 1)), (by first | rfl | (simp; done) | (simp [*]; done)), H', ⟨by have := HK1.out; have := HK2.out; omega⟩, ⟨by (with_reducible repeat (first | refine blk_drewN ?_ _ | refine blk_drew ?_ | refine blk_alloc ?_ _)); exact BK111.out⟩, ⟨by repeat (first | (with_reducible first | exact HB.out | apply below_alloc | apply pw_below_drewN | apply below_drew1 | refine below_set ?_ GE111.out) | exact HB.out)⟩⟩
                            · rw [if_neg c17] at H
                              exact absurd H (by simp)
                          · rw [if_neg c16] at H
                            exact absurd H (by simp)
                        · rw [if_neg c15] at H
                          exact absurd H (by simp)
                      · rw [if_neg c14] at H
                        exact absurd H (by simp)
                    · replace c13 := Bool.eq_false_iff.mpr c13
                      subst c13
                      have H1 : (spec_pcRises.l1 k2 l1 x17_1 (rd l0_0 x17_1) (wrap64 (x9_2 + 1)) l0_0 (l0_0.length : Int) x17_1) = some r := by rw [if_neg (show ¬ (false = true) by decide)] at H; exact H
                      clear H
                      have H := H1
                      clear H1
                      have H' := Aside0.mk H
                      clear H
                      go_wp2_with (first | (go_at_call 72; (with_reducible refine (spec_poIn.calls (rd l0_0 x17_1) x9_2 false _ A12.out).mono ?_); rintro e w' ⟨rfl, ⟨nd, rfl⟩⟩; (try first | exact ⟨rfl, _, World.drewN_drewN _ _ _⟩ | exact ⟨rfl, _, Eq.trans (World.drewN_drewN _ _ _) (congrArg (World.drewN _) (Nat.add_assoc _ _ _))⟩)))
                      repeat (go_quiet (first | (go_at_call 72; (with_reducible refine (spec_poIn.calls (rd l0_0 x17_1) x9_2 false _ A12.out).mono ?_); rintro e w' ⟨rfl, ⟨nd, rfl⟩⟩; (try first | exact ⟨rfl, _, World.drewN_drewN _ _ _⟩ | exact ⟨rfl, _, Eq.trans (World.drewN_drewN _ _ _) (congrArg (World.drewN _) (Nat.add_assoc _ _ _))⟩))); try go_wp2_with (first | (go_at_call 72; (with_reducible refine (spec_poIn.calls (rd l0_0 x17_1) x9_2 false _ A12.out).mono ?_); rintro e w' ⟨rfl, ⟨nd, rfl⟩⟩; (try first | exact ⟨rfl, _, World.drewN_drewN _ _ _⟩ | exact ⟨rfl, _, Eq.trans (World.drewN_drewN _ _ _) (congrArg (World.drewN _) (Nat.add_assoc _ _ _))⟩))))
                      go_roundg k2
                      case measure => have := HK1.out; have := HK2.out; omega
                      case rel => exact ⟨(wrap64 (x9_2 + 1)), (by first | rfl | (simp; done) | (simp [*]; done)), H', ⟨by have := HK1.out; have := HK2.out; omega⟩, ⟨by (with_reducible repeat (first | refine blk_drewN ?_ _ | refine blk_drew ?_ | refine blk_alloc ?_ _)); exact BK111.out⟩, ⟨by repeat (first | (with_reducible first | exact HB.out | apply below_alloc | apply pw_below_drewN | apply below_drew1 | refine below_set ?_ GE111.out) | exact HB.out)⟩⟩
                  · rw [if_neg c11] at H
                    have c11b0 : decide (x9_2 < x17_1) = false := decide_eq_false c11
                    clear c11
                    have H' := Aside0.mk H
                    clear H
                    go_wp2
                    repeat (go_quiet (fail); try go_wp2)
                    go_roundg k2
                    case measure => have := HK1.out; have := HK2.out; omega
                    case rel => exact ⟨(wrap64 (x17_1 + 1)), (by first | rfl | (simp; done) | (simp [*]; done)), H', ⟨by have := HK1.out; have := HK2.out; omega⟩, ⟨by (with_reducible repeat (first | refine blk_drewN ?_ _ | refine blk_drew ?_ | refine blk_alloc ?_ _)); exact BK111.out⟩, ⟨by repeat (first | (with_reducible first | exact HB.out | apply below_alloc | apply pw_below_drewN | apply below_drew1 | refine below_set ?_ GE111.out) | exact HB.out)⟩⟩
            · rw [if_neg c10] at H
              exact absurd H (by simp)
          · rw [if_neg c9] at H
            exact absurd H (by simp)
        · rw [if_neg c8] at H
          have c8b0 : decide (x17_1 < (l0_0.length : Int)) = false := decide_eq_false c8
          clear c8
          obtain rfl := Option.some.inj H
          go_wp2
          repeat (go_quiet (fail); try go_wp2)
          go_ret
          exact ⟨by first | rfl | (simp [errW_none, errW_some] <;> rfl) | (simp [*, errW_none, errW_some] <;> rfl), by repeat (first | (with_reducible first | exact HB.out | apply below_alloc | apply pw_below_drewN | apply below_drew1 | refine below_set ?_ GE111.out) | exact HB.out)⟩
  · replace c5 := Bool.eq_false_iff.mpr c5
    subst c5
    have H1 : (some false) = some r := by rw [if_neg (show ¬ (false = true) by decide)] at H; exact H
    clear H
    have H := H1
    clear H1
    obtain rfl := Option.some.inj H
    go_enter Try.func50, Try.ntmps50
    go_wp2_with (first | ((with_reducible refine gate_dst (N := 3) rfl ?_); refine box_event ?hg (N := 3) ?hd (cs := #[.slice A0_0 l0_0.length c0_0]) (t := 28) ?hr ?_; (case hd => rfl); (case hg => rfl); (case hr => first | (go_simp; done) | (go_simp; rfl)); intro gb111 hg w19 hbox hb; have n0_ := Aside0.mk (below_step (by repeat (first | (with_reducible first | exact HB.out | apply below_alloc | apply pw_below_drewN | apply below_drew1) | exact HB.out)) hb); have n1_ := Aside0.mk (hbox); have n2_ := Aside0.mk ((by rw [hg]; exact (below_size (by repeat (first | (with_reducible first | exact HB.out | apply below_alloc | apply pw_below_drewN | apply below_drew1) | exact HB.out))) : w.heap.size ≤ gb111)); have n3_ := Aside0.mk ((by rw [hg]; exact (below_size (by repeat (first | (with_reducible first | exact HB.out | apply below_alloc | apply pw_below_drewN | apply below_drew1) | exact HB.out))) : w.heap.size ≤ gb111)); clear HB; have HB := n0_; have BK111 := n1_; have GW111 := n2_; have GE111 := n3_; clear n0_ n1_ n2_ n3_; clear hb hbox hg) | (go_at_call 98; (with_reducible refine (spec_l1All.calls k _ _ l1 0 a2 false _ ?side1 ?side2 A4.out).mono ?_); (case side1 => repeat (first | exact (Kd.C_below HR1.out HB.out) | (with_reducible refine Kd.C_alloc ?_ _) | (with_reducible refine Kd.C_drewN ?_ _) | (with_reducible refine Kd.C_drew ?_))); (case side2 => exact HC1.out); rintro e w' ⟨rfl, ⟨nd, rfl⟩⟩; (try first | exact ⟨rfl, _, World.drewN_drewN _ _ _⟩ | exact ⟨rfl, _, Eq.trans (World.drewN_drewN _ _ _) (congrArg (World.drewN _) (Nat.add_assoc _ _ _))⟩)))
    repeat (go_quiet (first | ((with_reducible refine gate_dst (N := 3) rfl ?_); refine box_event ?hg (N := 3) ?hd (cs := #[.slice A0_0 l0_0.length c0_0]) (t := 28) ?hr ?_; (case hd => rfl); (case hg => rfl); (case hr => first | (go_simp; done) | (go_simp; rfl)); intro gb111 hg w19 hbox hb; have n0_ := Aside0.mk (below_step (by repeat (first | (with_reducible first | exact HB.out | apply below_alloc | apply pw_below_drewN | apply below_drew1) | exact HB.out)) hb); have n1_ := Aside0.mk (hbox); have n2_ := Aside0.mk ((by rw [hg]; exact (below_size (by repeat (first | (with_reducible first | exact HB.out | apply below_alloc | apply pw_below_drewN | apply below_drew1) | exact HB.out))) : w.heap.size ≤ gb111)); have n3_ := Aside0.mk ((by rw [hg]; exact (below_size (by repeat (first | (with_reducible first | exact HB.out | apply below_alloc | apply pw_below_drewN | apply below_drew1) | exact HB.out))) : w.heap.size ≤ gb111)); clear HB; have HB := n0_; have BK111 := n1_; have GW111 := n2_; have GE111 := n3_; clear n0_ n1_ n2_ n3_; clear hb hbox hg) | (go_at_call 98; (with_reducible refine (spec_l1All.calls k _ _ l1 0 a2 false _ ?side1 ?side2 A4.out).mono ?_); (case side1 => repeat (first | exact (Kd.C_below HR1.out HB.out) | (with_reducible refine Kd.C_alloc ?_ _) | (with_reducible refine Kd.C_drewN ?_ _) | (with_reducible refine Kd.C_drew ?_))); (case side2 => exact HC1.out); rintro e w' ⟨rfl, ⟨nd, rfl⟩⟩; (try first | exact ⟨rfl, _, World.drewN_drewN _ _ _⟩ | exact ⟨rfl, _, Eq.trans (World.drewN_drewN _ _ _) (congrArg (World.drewN _) (Nat.add_assoc _ _ _))⟩))); try go_wp2_with (first | ((with_reducible refine gate_dst (N := 3) rfl ?_); refine box_event ?hg (N := 3) ?hd (cs := #[.slice A0_0 l0_0.length c0_0]) (t := 28) ?hr ?_; (case hd => rfl); (case hg => rfl); (case hr => first | (go_simp; done) | (go_simp; rfl)); intro gb111 hg w19 hbox hb; have n0_ := Aside0.mk (below_step (by repeat (first | (with_reducible first | exact HB.out | apply below_alloc | apply pw_below_drewN | apply below_drew1) | exact HB.out)) hb); have n1_ := Aside0.mk (hbox); have n2_ := Aside0.mk ((by rw [hg]; exact (below_size (by repeat (first | (with_reducible first | exact HB.out | apply below_alloc | apply pw_below_drewN | apply below_drew1) | exact HB.out))) : w.heap.size ≤ gb111)); have n3_ := Aside0.mk ((by rw [hg]; exact (below_size (by repeat (first | (with_reducible first | exact HB.out | apply below_alloc | apply pw_below_drewN | apply below_drew1) | exact HB.out))) : w.heap.size ≤ gb111)); clear HB; have HB := n0_; have BK111 := n1_; have GW111 := n2_; have GE111 := n3_; clear n0_ n1_ n2_ n3_; clear hb hbox hg) | (go_at_call 98; (with_reducible refine (spec_l1All.calls k _ _ l1 0 a2 false _ ?side1 ?side2 A4.out).mono ?_); (case side1 => repeat (first | exact (Kd.C_below HR1.out HB.out) | (with_reducible refine Kd.C_alloc ?_ _) | (with_reducible refine Kd.C_drewN ?_ _) | (with_reducible refine Kd.C_drew ?_))); (case side2 => exact HC1.out); rintro e w' ⟨rfl, ⟨nd, rfl⟩⟩; (try first | exact ⟨rfl, _, World.drewN_drewN _ _ _⟩ | exact ⟨rfl, _, Eq.trans (World.drewN_drewN _ _ _) (congrArg (World.drewN _) (Nat.add_assoc _ _ _))⟩))))
    go_ret
    exact ⟨by first | rfl | (simp [errW_none, errW_some] <;> rfl) | (simp [*, errW_none, errW_some] <;> rfl), by repeat (first | (with_reducible first | exact HB.out | apply below_alloc | apply pw_below_drewN | apply below_drew1 | refine below_set ?_ GE111.out) | exact HB.out)⟩
end Go.Proofs.Ytioibkdjcmkcpaa.L
end
section
namespace Go.Proofs.Ytioibkdjcmkcpaa.L
open Go.RowKit Go.Proofs.YtioibkdjcmkcpaaW.PrintWords Go.Proofs.YtioibkdjcmkcpaaW.PrintLast Go.Proofs.YtioibkdjcmkcpaaW.PrintMore
attribute [local go_sem] max2_int min2_int max_two min_two max_three min_three max_four min_four
set_option linter.unusedVariables false
set_option linter.unusedSimpArgs false
def spec_pcIs.f (k : Nat) (l0_0 : List Int) (l1 : List Int) (a2 : Int) : Option (Bool) := (spec_poGood.f k l0_0).bind fun t495 => (if t495 = true then ((spec_pcBound.f a2).bind fun t496 => (if t496 = true then (if (l1.length : Int) = (l0_0.length : Int) then ((spec_pcRises.f k l0_0 l1 a2).bind fun t497 => (some t497)) else (some false)) else (some false))) else (some false))
theorem spec_pcIs.mono : ∀ a0 a1 a2 k, LeO (spec_pcIs.f k a0 a1 a2) (spec_pcIs.f (k + 1) a0 a1 a2) := by
  intro a0 a1 a2 k
  unfold spec_pcIs.f
  repeat' first
      | (with_reducible exact spec_pcRises.mono _ _ _ _)
      | (with_reducible exact spec_poGood.mono _ _)
      | (with_reducible exact LeO.refl _)
      | (with_reducible exact LeO.none _)
      | (with_reducible refine LeO.ite ?_ ?_)
      | (with_reducible refine LeO.bind ?_ (fun _ => ?_))
      | exact spec_pcRises.mono _ _ _ _
      | exact spec_poGood.mono _ _
      | exact LeO.none _
      | refine LeO.ite ?_ ?_
      | refine LeO.bind ?_ (fun _ => ?_)
set_option maxHeartbeats 8000000 in
set_option maxRecDepth 100000 in
theorem spec_pcIs.calls (k : Nat) (A0_0 : Option Addr) (c0_0 : Nat) (l0_0 : List Int) (A1 : Option Addr) (c1 : Nat) (l1 : List Int) (a2 : Int) (r : Bool) (w : World) (hr0_0 : Kd.C (Kd.int .i64) w A0_0 l0_0.length l0_0) (hc0_0 : l0_0.length ≤ c0_0) (hr1 : Kd.C (Kd.int .i64) w A1 l1.length l1) (hc1 : l1.length ≤ c1) (h : spec_pcIs.f k l0_0 l1 a2 = some r) :
    Calls Try.prog 78 #[.agg #[.slice A0_0 l0_0.length c0_0], .slice A1 l1.length c1, .int .i64 a2] w fun e w' => e = .returned (.bool r) ∧ Below w.heap.size w w' := by
  have hu28 := Try.underlying28
  have HR0_0 := Aside0.mk hr0_0
  have HC0_0 := Aside0.mk hc0_0
  clear hr0_0 hc0_0
  have HR1 := Aside0.mk hr1
  have HC1 := Aside0.mk hc1
  clear hr1 hc1
  have HB := Aside0.mk (Below.refl w.heap.size w)
  have H : ((spec_poGood.f k l0_0).bind fun t495 => (if t495 = true then ((spec_pcBound.f a2).bind fun t496 => (if t496 = true then (if (l1.length : Int) = (l0_0.length : Int) then ((spec_pcRises.f k l0_0 l1 a2).bind fun t497 => (some t497)) else (some false)) else (some false))) else (some false))) = some r := h
  clear h
  replace H := Option.bind_eq_some_iff.mp H
  obtain ⟨t495, A40, H⟩ := H
  replace H : (if t495 = true then ((spec_pcBound.f a2).bind fun t496 => (if t496 = true then (if (l1.length : Int) = (l0_0.length : Int) then ((spec_pcRises.f k l0_0 l1 a2).bind fun t497 => (some t497)) else (some false)) else (some false))) else (some false)) = some r := H
  have A4 := Aside0.mk A40
  clear A40
  by_cases c5 : t495 = true
  · subst c5
    have H1 : ((spec_pcBound.f a2).bind fun t496 => (if t496 = true then (if (l1.length : Int) = (l0_0.length : Int) then ((spec_pcRises.f k l0_0 l1 a2).bind fun t497 => (some t497)) else (some false)) else (some false))) = some r := by rw [if_pos rfl] at H; exact H
    clear H
    have H := H1
    clear H1
    replace H := Option.bind_eq_some_iff.mp H
    obtain ⟨t496, A60, H⟩ := H
    replace H : (if t496 = true then (if (l1.length : Int) = (l0_0.length : Int) then ((spec_pcRises.f k l0_0 l1 a2).bind fun t497 => (some t497)) else (some false)) else (some false)) = some r := H
    have A6 := Aside0.mk A60
    clear A60
    by_cases c7 : t496 = true
    · subst c7
      have H1 : (if (l1.length : Int) = (l0_0.length : Int) then ((spec_pcRises.f k l0_0 l1 a2).bind fun t497 => (some t497)) else (some false)) = some r := by rw [if_pos rfl] at H; exact H
      clear H
      have H := H1
      clear H1
      by_cases c8 : (l1.length : Int) = (l0_0.length : Int)
      · rw [if_pos c8] at H
        have c8b0 : ((l1.length : Int) == (l0_0.length : Int)) = true := beq_iff_eq.mpr c8
        have c8b1 : ((l1.length : Int) != (l0_0.length : Int)) = false := bne_eq_false_iff_eq.mpr c8
        have c8b2 : (l1.length == l0_0.length) = true := by first | simpa using c8 | (simp at c8 ⊢; omega)
        clear c8
        replace H := Option.bind_eq_some_iff.mp H
        obtain ⟨t497, A90, H⟩ := H
        replace H : (some t497) = some r := H
        have A9 := Aside0.mk A90
        clear A90
        obtain rfl := Option.some.inj H
        go_enter Try.func78, Try.ntmps78
        go_wp2_with (first | ((with_reducible refine gate_dst (N := 3) rfl ?_); (try (refine gate_guard (by rfl) ?_; dsimp only)); refine box_event ?hg (N := 3) ?hd (cs := #[.slice A0_0 l0_0.length c0_0]) (t := 28) ?hr ?_; (case hd => rfl); (case hg => rfl); (case hr => first | (go_simp; done) | (go_simp; rfl)); intro gb494 hg w10 hbox hb; have n0_ := Aside0.mk (below_step (by repeat (first | (with_reducible first | exact HB.out | apply below_alloc | apply pw_below_drewN | apply below_drew1) | exact HB.out)) hb); have n1_ := Aside0.mk (hbox); have n2_ := Aside0.mk ((by rw [hg]; exact (below_size (by repeat (first | (with_reducible first | exact HB.out | apply below_alloc | apply pw_below_drewN | apply below_drew1) | exact HB.out))) : w.heap.size ≤ gb494)); have n3_ := Aside0.mk ((by rw [hg]; exact (below_size (by repeat (first | (with_reducible first | exact HB.out | apply below_alloc | apply pw_below_drewN | apply below_drew1) | exact HB.out))) : w.heap.size ≤ gb494)); clear HB; have HB := n0_; have BK494 := n1_; have GW494 := n2_; have GE494 := n3_; clear n0_ n1_ n2_ n3_; clear hb hbox hg; have hcz11_0 : w10.cell? ⟨gb494, 0, none⟩ = some (.slice A0_0 l0_0.length c0_0) := (blk_cell BK494.out 0).trans rfl; have hfz11_0 := blk_frozen BK494.out 0) | ((with_reducible refine gate_callee (f := 48) rfl ?_); refine goesL_ (some 8) rfl rfl Try.func48 (by kernel_rfl) rfl #[.agg #[.slice A0_0 l0_0.length c0_0]] rfl (by (try simp only [List.map_toArray, List.map_cons, List.map_nil]); first | done | rfl | (simp only [List.length_drop, List.length_take]; rfl)) ?_; (with_reducible refine (spec_poGood.calls k _ _ l0_0 true _ ?side1 ?side2 A4.out).mono ?_); (case side1 => repeat (first | exact (Kd.C_below HR0_0.out HB.out) | (with_reducible refine Kd.C_alloc ?_ _) | (with_reducible refine Kd.C_drewN ?_ _) | (with_reducible refine Kd.C_drew ?_))); (case side2 => exact HC0_0.out); rintro e w12 ⟨rfl, hb⟩; refine ⟨_, rfl, ?_⟩; have n0_ := Aside0.mk (blk_below (g := gb494) (o := .cells #[.slice A0_0 l0_0.length c0_0] 28 (0, 0)) (by (with_reducible repeat (first | refine blk_drewN ?_ _ | refine blk_drew ?_ | refine blk_alloc ?_ _)); exact BK494.out) hb); have n1_ := Aside0.mk (below_step (by repeat (first | (with_reducible first | exact HB.out | apply below_alloc | apply pw_below_drewN | apply below_drew1 | refine below_set ?_ GE494.out) | exact HB.out)) hb); clear BK494; clear HB; have BK494 := n0_; have HB := n1_; clear n0_ n1_; (try clear hb); (try clear hb2); (try clear hk); (try clear hi)) | (go_at_call 49; (with_reducible refine (spec_pcBound.calls a2 true _ A6.out).mono ?_); rintro e w' ⟨rfl, ⟨nd, rfl⟩⟩; have hcz13_0 : w12.cell? ⟨gb494, 0, none⟩ = some (.slice A0_0 l0_0.length c0_0) := (blk_cell BK494.out 0).trans rfl; have hfz13_0 := blk_frozen BK494.out 0) | (go_at_call 50; (with_reducible refine (spec_pcRises.calls k _ _ l0_0 _ _ l1 a2 t497 _ ?side1 ?side2 ?side3 ?side4 A9.out).mono ?_); (case side1 => repeat (first | exact (Kd.C_below HR0_0.out (by repeat (first | (with_reducible first | exact HB.out | apply below_alloc | apply pw_below_drewN | apply below_drew1 | refine below_set ?_ GE494.out) | exact HB.out))) | (with_reducible refine Kd.C_alloc ?_ _) | (with_reducible refine Kd.C_drewN ?_ _) | (with_reducible refine Kd.C_drew ?_))); (case side2 => exact HC0_0.out); (case side3 => repeat (first | exact (Kd.C_below HR1.out (by repeat (first | (with_reducible first | exact HB.out | apply below_alloc | apply pw_below_drewN | apply below_drew1 | refine below_set ?_ GE494.out) | exact HB.out))) | (with_reducible refine Kd.C_alloc ?_ _) | (with_reducible refine Kd.C_drewN ?_ _) | (with_reducible refine Kd.C_drew ?_))); (case side4 => exact HC1.out); rintro e w14 ⟨rfl, hb⟩; have n0_ := Aside0.mk (blk_below (g := gb494) (o := .cells #[.slice A0_0 l0_0.length c0_0] 28 (0, 0)) (by (with_reducible repeat (first | refine blk_drewN ?_ _ | refine blk_drew ?_ | refine blk_alloc ?_ _)); exact BK494.out) hb); have n1_ := Aside0.mk (below_step (by repeat (first | (with_reducible first | exact HB.out | apply below_alloc | apply pw_below_drewN | apply below_drew1 | refine below_set ?_ GE494.out) | exact HB.out)) hb); clear BK494; clear HB; have BK494 := n0_; have HB := n1_; clear n0_ n1_; (try clear hb); (try clear hb2); (try clear hk); (try clear hi)))
        go_ret
        exact ⟨by first | rfl | (simp [errW_none, errW_some] <;> rfl) | (simp [*, errW_none, errW_some] <;> rfl), by repeat (first | (with_reducible first | exact HB.out | apply below_alloc | apply pw_below_drewN | apply below_drew1 | refine below_set ?_ GE494.out) | exact HB.out)⟩
      · rw [if_neg c8] at H
        have c8b0 : ((l1.length : Int) == (l0_0.length : Int)) = false := beq_eq_false_iff_ne.mpr c8
        have c8b1 : ((l1.length : Int) != (l0_0.length : Int)) = true := bne_iff_ne.mpr c8
        have c8b2 : (l1.length == l0_0.length) = false := by first | simpa using c8 | (simp at c8 ⊢; omega)
        obtain rfl := Option.some.inj H
        go_enter Try.func78, Try.ntmps78
        go_wp2_with (first | ((with_reducible refine gate_dst (N := 3) rfl ?_); (try (refine gate_guard (by rfl) ?_; dsimp only)); refine box_event ?hg (N := 3) ?hd (cs := #[.slice A0_0 l0_0.length c0_0]) (t := 28) ?hr ?_; (case hd => rfl); (case hg => rfl); (case hr => first | (go_simp; done) | (go_simp; rfl)); intro gb494 hg w15 hbox hb; have n0_ := Aside0.mk (below_step (by repeat (first | (with_reducible first | exact HB.out | apply below_alloc | apply pw_below_drewN | apply below_drew1) | exact HB.out)) hb); have n1_ := Aside0.mk (hbox); have n2_ := Aside0.mk ((by rw [hg]; exact (below_size (by repeat (first | (with_reducible first | exact HB.out | apply below_alloc | apply pw_below_drewN | apply below_drew1) | exact HB.out))) : w.heap.size ≤ gb494)); have n3_ := Aside0.mk ((by rw [hg]; exact (below_size (by repeat (first | (with_reducible first | exact HB.out | apply below_alloc | apply pw_below_drewN | apply below_drew1) | exact HB.out))) : w.heap.size ≤ gb494)); clear HB; have HB := n0_; have BK494 := n1_; have GW494 := n2_; have GE494 := n3_; clear n0_ n1_ n2_ n3_; clear hb hbox hg; have hcz16_0 : w15.cell? ⟨gb494, 0, none⟩ = some (.slice A0_0 l0_0.length c0_0) := (blk_cell BK494.out 0).trans rfl; have hfz16_0 := blk_frozen BK494.out 0) | ((with_reducible refine gate_callee (f := 48) rfl ?_); refine goesL_ (some 8) rfl rfl Try.func48 (by kernel_rfl) rfl #[.agg #[.slice A0_0 l0_0.length c0_0]] rfl (by (try simp only [List.map_toArray, List.map_cons, List.map_nil]); first | done | rfl | (simp only [List.length_drop, List.length_take]; rfl)) ?_; (with_reducible refine (spec_poGood.calls k _ _ l0_0 true _ ?side1 ?side2 A4.out).mono ?_); (case side1 => repeat (first | exact (Kd.C_below HR0_0.out HB.out) | (with_reducible refine Kd.C_alloc ?_ _) | (with_reducible refine Kd.C_drewN ?_ _) | (with_reducible refine Kd.C_drew ?_))); (case side2 => exact HC0_0.out); rintro e w17 ⟨rfl, hb⟩; refine ⟨_, rfl, ?_⟩; have n0_ := Aside0.mk (blk_below (g := gb494) (o := .cells #[.slice A0_0 l0_0.length c0_0] 28 (0, 0)) (by (with_reducible repeat (first | refine blk_drewN ?_ _ | refine blk_drew ?_ | refine blk_alloc ?_ _)); exact BK494.out) hb); have n1_ := Aside0.mk (below_step (by repeat (first | (with_reducible first | exact HB.out | apply below_alloc | apply pw_below_drewN | apply below_drew1 | refine below_set ?_ GE494.out) | exact HB.out)) hb); clear BK494; clear HB; have BK494 := n0_; have HB := n1_; clear n0_ n1_; (try clear hb); (try clear hb2); (try clear hk); (try clear hi)) | (go_at_call 49; (with_reducible refine (spec_pcBound.calls a2 true _ A6.out).mono ?_); rintro e w' ⟨rfl, ⟨nd, rfl⟩⟩; have hcz18_0 : w17.cell? ⟨gb494, 0, none⟩ = some (.slice A0_0 l0_0.length c0_0) := (blk_cell BK494.out 0).trans rfl; have hfz18_0 := blk_frozen BK494.out 0))
        go_ret
        exact ⟨by first | rfl | (simp [errW_none, errW_some] <;> rfl) | (simp [*, errW_none, errW_some] <;> rfl), by repeat (first | (with_reducible first | exact HB.out | apply below_alloc | apply pw_below_drewN | apply below_drew1 | refine below_set ?_ GE494.out) | exact HB.out)⟩
    · replace c7 := Bool.eq_false_iff.mpr c7
      subst c7
      have H1 : (some false) = some r := by rw [if_neg (show ¬ (false = true) by decide)] at H; exact H
      clear H
      have H := H1
      clear H1
      obtain rfl := Option.some.inj H
      go_enter Try.func78, Try.ntmps78
      go_wp2_with (first | ((with_reducible refine gate_dst (N := 3) rfl ?_); (try (refine gate_guard (by rfl) ?_; dsimp only)); refine box_event ?hg (N := 3) ?hd (cs := #[.slice A0_0 l0_0.length c0_0]) (t := 28) ?hr ?_; (case hd => rfl); (case hg => rfl); (case hr => first | (go_simp; done) | (go_simp; rfl)); intro gb494 hg w19 hbox hb; have n0_ := Aside0.mk (below_step (by repeat (first | (with_reducible first | exact HB.out | apply below_alloc | apply pw_below_drewN | apply below_drew1) | exact HB.out)) hb); have n1_ := Aside0.mk (hbox); have n2_ := Aside0.mk ((by rw [hg]; exact (below_size (by repeat (first | (with_reducible first | exact HB.out | apply below_alloc | apply pw_below_drewN | apply below_drew1) | exact HB.out))) : w.heap.size ≤ gb494)); have n3_ := Aside0.mk ((by rw [hg]; exact (below_size (by repeat (first | (with_reducible first | exact HB.out | apply below_alloc | apply pw_below_drewN | apply below_drew1) | exact HB.out))) : w.heap.size ≤ gb494)); clear HB; have HB := n0_; have BK494 := n1_; have GW494 := n2_; have GE494 := n3_; clear n0_ n1_ n2_ n3_; clear hb hbox hg; have hcz20_0 : w19.cell? ⟨gb494, 0, none⟩ = some (.slice A0_0 l0_0.length c0_0) := (blk_cell BK494.out 0).trans rfl; have hfz20_0 := blk_frozen BK494.out 0) | ((with_reducible refine gate_callee (f := 48) rfl ?_); refine goesL_ (some 8) rfl rfl Try.func48 (by kernel_rfl) rfl #[.agg #[.slice A0_0 l0_0.length c0_0]] rfl (by (try simp only [List.map_toArray, List.map_cons, List.map_nil]); first | done | rfl | (simp only [List.length_drop, List.length_take]; rfl)) ?_; (with_reducible refine (spec_poGood.calls k _ _ l0_0 true _ ?side1 ?side2 A4.out).mono ?_); (case side1 => repeat (first | exact (Kd.C_below HR0_0.out HB.out) | (with_reducible refine Kd.C_alloc ?_ _) | (with_reducible refine Kd.C_drewN ?_ _) | (with_reducible refine Kd.C_drew ?_))); (case side2 => exact HC0_0.out); rintro e w21 ⟨rfl, hb⟩; refine ⟨_, rfl, ?_⟩; have n0_ := Aside0.mk (blk_below (g := gb494) (o := .cells #[.slice A0_0 l0_0.length c0_0] 28 (0, 0)) (by (with_reducible repeat (first | refine blk_drewN ?_ _ | refine blk_drew ?_ | refine blk_alloc ?_ _)); exact BK494.out) hb); have n1_ := Aside0.mk (below_step (by repeat (first | (with_reducible first | exact HB.out | apply below_alloc | apply pw_below_drewN | apply below_drew1 | refine below_set ?_ GE494.out) | exact HB.out)) hb); clear BK494; clear HB; have BK494 := n0_; have HB := n1_; clear n0_ n1_; (try clear hb); (try clear hb2); (try clear hk); (try clear hi)) | (go_at_call 49; (with_reducible refine (spec_pcBound.calls a2 false _ A6.out).mono ?_); rintro e w' ⟨rfl, ⟨nd, rfl⟩⟩))
      go_ret
      exact ⟨by first | rfl | (simp [errW_none, errW_some] <;> rfl) | (simp [*, errW_none, errW_some] <;> rfl), by repeat (first | (with_reducible first | exact HB.out | apply below_alloc | apply pw_below_drewN | apply below_drew1 | refine below_set ?_ GE494.out) | exact HB.out)⟩
  · replace c5 := Bool.eq_false_iff.mpr c5
    subst c5
    have H1 : (some false) = some r := by rw [if_neg (show ¬ (false = true) by decide)] at H; exact H
    clear H
    have H := H1
    clear H1
    obtain rfl := Option.some.inj H
    go_enter Try.func78, Try.ntmps78
    go_wp2_with (first | ((with_reducible refine gate_dst (N := 3) rfl ?_); (try (refine gate_guard (by rfl) ?_; dsimp only)); refine box_event ?hg (N := 3) ?hd (cs := #[.slice A0_0 l0_0.length c0_0]) (t := 28) ?hr ?_; (case hd => rfl); (case hg => rfl); (case hr => first | (go_simp; done) | (go_simp; rfl)); intro gb494 hg w22 hbox hb; have n0_ := Aside0.mk (below_step (by repeat (first | (with_reducible first | exact HB.out | apply below_alloc | apply pw_below_drewN | apply below_drew1) | exact HB.out)) hb); have n1_ := Aside0.mk (hbox); have n2_ := Aside0.mk ((by rw [hg]; exact (below_size (by repeat (first | (with_reducible first | exact HB.out | apply below_alloc | apply pw_below_drewN | apply below_drew1) | exact HB.out))) : w.heap.size ≤ gb494)); have n3_ := Aside0.mk ((by rw [hg]; exact (below_size (by repeat (first | (with_reducible first | exact HB.out | apply below_alloc | apply pw_below_drewN | apply below_drew1) | exact HB.out))) : w.heap.size ≤ gb494)); clear HB; have HB := n0_; have BK494 := n1_; have GW494 := n2_; have GE494 := n3_; clear n0_ n1_ n2_ n3_; clear hb hbox hg; have hcz23_0 : w22.cell? ⟨gb494, 0, none⟩ = some (.slice A0_0 l0_0.length c0_0) := (blk_cell BK494.out 0).trans rfl; have hfz23_0 := blk_frozen BK494.out 0) | ((with_reducible refine gate_callee (f := 48) rfl ?_); refine goesL_ (some 8) rfl rfl Try.func48 (by kernel_rfl) rfl #[.agg #[.slice A0_0 l0_0.length c0_0]] rfl (by (try simp only [List.map_toArray, List.map_cons, List.map_nil]); first | done | rfl | (simp only [List.length_drop, List.length_take]; rfl)) ?_; (with_reducible refine (spec_poGood.calls k _ _ l0_0 false _ ?side1 ?side2 A4.out).mono ?_); (case side1 => repeat (first | exact (Kd.C_below HR0_0.out HB.out) | (with_reducible refine Kd.C_alloc ?_ _) | (with_reducible refine Kd.C_drewN ?_ _) | (with_reducible refine Kd.C_drew ?_))); (case side2 => exact HC0_0.out); rintro e w24 ⟨rfl, hb⟩; refine ⟨_, rfl, ?_⟩; have n0_ := Aside0.mk (blk_below (g := gb494) (o := .cells #[.slice A0_0 l0_0.length c0_0] 28 (0, 0)) (by (with_reducible repeat (first | refine blk_drewN ?_ _ | refine blk_drew ?_ | refine blk_alloc ?_ _)); exact BK494.out) hb); have n1_ := Aside0.mk (below_step (by repeat (first | (with_reducible first | exact HB.out | apply below_alloc | apply pw_below_drewN | apply below_drew1 | refine below_set ?_ GE494.out) | exact HB.out)) hb); clear BK494; clear HB; have BK494 := n0_; have HB := n1_; clear n0_ n1_; (try clear hb); (try clear hb2); (try clear hk); (try clear hi)))
    go_ret
    exact ⟨by first | rfl | (simp [errW_none, errW_some] <;> rfl) | (simp [*, errW_none, errW_some] <;> rfl), by repeat (first | (with_reducible first | exact HB.out | apply below_alloc | apply pw_below_drewN | apply below_drew1 | refine below_set ?_ GE494.out) | exact HB.out)⟩
end Go.Proofs.Ytioibkdjcmkcpaa.L
end
section
namespace Go.Proofs.Ytioibkdjcmkcpaa.L
open Go.RowKit Go.Proofs.YtioibkdjcmkcpaaW.PrintWords Go.Proofs.YtioibkdjcmkcpaaW.PrintLast Go.Proofs.YtioibkdjcmkcpaaW.PrintMore
attribute [local go_sem] max2_int min2_int max_two min_two max_three min_three max_four min_four
set_option linter.unusedVariables false
set_option linter.unusedSimpArgs false
def impl_isArray.f (k : Nat) (l0_0 : List Int) (l1 : List Int) (a2 : Int) : Option (Bool) := (impl_isHigh.f k l0_0 a2).bind fun t503 => (if t503 = true then ((impl_Poset_areLabels.f k l0_0 l1 a2 0).bind fun t504 => (some t504)) else (some false))
theorem impl_isArray.mono : ∀ a0 a1 a2 k, LeO (impl_isArray.f k a0 a1 a2) (impl_isArray.f (k + 1) a0 a1 a2) := by
  intro a0 a1 a2 k
  unfold impl_isArray.f
  repeat' first
      | (with_reducible exact impl_Poset_areLabels.mono _ _ _ _ _)
      | (with_reducible exact impl_isHigh.mono _ _ _)
      | (with_reducible exact LeO.refl _)
      | (with_reducible exact LeO.none _)
      | (with_reducible refine LeO.ite ?_ ?_)
      | (with_reducible refine LeO.bind ?_ (fun _ => ?_))
      | exact impl_Poset_areLabels.mono _ _ _ _ _
      | exact impl_isHigh.mono _ _ _
      | exact LeO.none _
      | refine LeO.ite ?_ ?_
      | refine LeO.bind ?_ (fun _ => ?_)
set_option maxHeartbeats 8000000 in
set_option maxRecDepth 100000 in
theorem impl_isArray.calls (k : Nat) (A0_0 : Option Addr) (c0_0 : Nat) (l0_0 : List Int) (A1 : Option Addr) (c1 : Nat) (l1 : List Int) (a2 : Int) (r : Bool) (w : World) (hr0_0 : Kd.C (Kd.int .i64) w A0_0 l0_0.length l0_0) (hc0_0 : l0_0.length ≤ c0_0) (hr1 : Kd.C (Kd.int .i64) w A1 l1.length l1) (hc1 : l1.length ≤ c1) (h : impl_isArray.f k l0_0 l1 a2 = some r) :
    Calls Try.prog 80 #[.agg #[.slice A0_0 l0_0.length c0_0], .slice A1 l1.length c1, .int .i64 a2] w fun e w' => e = .returned (.bool r) ∧ Below w.heap.size w w' := by
  have hu28 := Try.underlying28
  have HR0_0 := Aside0.mk hr0_0
  have HC0_0 := Aside0.mk hc0_0
  clear hr0_0 hc0_0
  have HR1 := Aside0.mk hr1
  have HC1 := Aside0.mk hc1
  clear hr1 hc1
  have HB := Aside0.mk (Below.refl w.heap.size w)
  have H : ((impl_isHigh.f k l0_0 a2).bind fun t503 => (if t503 = true then ((impl_Poset_areLabels.f k l0_0 l1 a2 0).bind fun t504 => (some t504)) else (some false))) = some r := h
  clear h
  replace H := Option.bind_eq_some_iff.mp H
  obtain ⟨t503, A40, H⟩ := H
  replace H : (if t503 = true then ((impl_Poset_areLabels.f k l0_0 l1 a2 0).bind fun t504 => (some t504)) else (some false)) = some r := H
  have A4 := Aside0.mk A40
  clear A40
  by_cases c5 : t503 = true
  · subst c5
    have H1 : ((impl_Poset_areLabels.f k l0_0 l1 a2 0).bind fun t504 => (some t504)) = some r := by rw [if_pos rfl] at H; exact H
    clear H
    have H := H1
    clear H1
    replace H := Option.bind_eq_some_iff.mp H
    obtain ⟨t504, A60, H⟩ := H
    replace H : (some t504) = some r := H
    have A6 := Aside0.mk A60
    clear A60
    obtain rfl := Option.some.inj H
    go_enter Try.func80, Try.ntmps80
    go_wp2_with (first | ((with_reducible refine gate_dst (N := 3) rfl ?_); refine box_event ?hg (N := 3) ?hd (cs := #[.slice A0_0 l0_0.length c0_0]) (t := 28) ?hr ?_; (case hd => rfl); (case hg => rfl); (case hr => first | (go_simp; done) | (go_simp; rfl)); intro gb502 hg w7 hbox hb; have n0_ := Aside0.mk (below_step (by repeat (first | (with_reducible first | exact HB.out | apply below_alloc | apply pw_below_drewN | apply below_drew1) | exact HB.out)) hb); have n1_ := Aside0.mk (hbox); have n2_ := Aside0.mk ((by rw [hg]; exact (below_size (by repeat (first | (with_reducible first | exact HB.out | apply below_alloc | apply pw_below_drewN | apply below_drew1) | exact HB.out))) : w.heap.size ≤ gb502)); have n3_ := Aside0.mk ((by rw [hg]; exact (below_size (by repeat (first | (with_reducible first | exact HB.out | apply below_alloc | apply pw_below_drewN | apply below_drew1) | exact HB.out))) : w.heap.size ≤ gb502)); clear HB; have HB := n0_; have BK502 := n1_; have GW502 := n2_; have GE502 := n3_; clear n0_ n1_ n2_ n3_; clear hb hbox hg; have hcz8_0 : w7.cell? ⟨gb502, 0, none⟩ = some (.slice A0_0 l0_0.length c0_0) := (blk_cell BK502.out 0).trans rfl; have hfz8_0 := blk_frozen BK502.out 0) | ((with_reducible refine gate_callee (f := 51) rfl ?_); refine goesL_ (some 9) rfl rfl Try.func51 (by kernel_rfl) rfl #[.agg #[.slice A0_0 l0_0.length c0_0], .int .i64 a2] rfl (by (try simp only [List.map_toArray, List.map_cons, List.map_nil]); first | done | rfl | (simp only [List.length_drop, List.length_take]; rfl)) ?_; (with_reducible refine (impl_isHigh.calls k _ _ l0_0 a2 true _ ?side1 ?side2 A4.out).mono ?_); (case side1 => repeat (first | exact (Kd.C_below HR0_0.out HB.out) | (with_reducible refine Kd.C_alloc ?_ _) | (with_reducible refine Kd.C_drewN ?_ _) | (with_reducible refine Kd.C_drew ?_))); (case side2 => exact HC0_0.out); rintro e w9 ⟨rfl, hb⟩; refine ⟨_, rfl, ?_⟩; have n0_ := Aside0.mk (blk_below (g := gb502) (o := .cells #[.slice A0_0 l0_0.length c0_0] 28 (0, 0)) (by (with_reducible repeat (first | refine blk_drewN ?_ _ | refine blk_drew ?_ | refine blk_alloc ?_ _)); exact BK502.out) hb); have n1_ := Aside0.mk (below_step (by repeat (first | (with_reducible first | exact HB.out | apply below_alloc | apply pw_below_drewN | apply below_drew1 | refine below_set ?_ GE502.out) | exact HB.out)) hb); clear BK502; clear HB; have BK502 := n0_; have HB := n1_; clear n0_ n1_; (try clear hb); (try clear hb2); (try clear hk); (try clear hi); have hcz10_0 : w9.cell? ⟨gb502, 0, none⟩ = some (.slice A0_0 l0_0.length c0_0) := (blk_cell BK502.out 0).trans rfl; have hfz10_0 := blk_frozen BK502.out 0) | (go_at_call 53; (with_reducible refine (impl_Poset_areLabels.calls k _ _ l0_0 _ _ l1 a2 0 t504 _ ?side1 ?side2 ?side3 ?side4 A6.out).mono ?_); (case side1 => repeat (first | exact (Kd.C_below HR0_0.out HB.out) | (with_reducible refine Kd.C_alloc ?_ _) | (with_reducible refine Kd.C_drewN ?_ _) | (with_reducible refine Kd.C_drew ?_))); (case side2 => exact HC0_0.out); (case side3 => repeat (first | exact (Kd.C_below HR1.out HB.out) | (with_reducible refine Kd.C_alloc ?_ _) | (with_reducible refine Kd.C_drewN ?_ _) | (with_reducible refine Kd.C_drew ?_))); (case side4 => exact HC1.out); rintro e w11 ⟨rfl, hb⟩; have n0_ := Aside0.mk (blk_below (g := gb502) (o := .cells #[.slice A0_0 l0_0.length c0_0] 28 (0, 0)) (by (with_reducible repeat (first | refine blk_drewN ?_ _ | refine blk_drew ?_ | refine blk_alloc ?_ _)); exact BK502.out) hb); have n1_ := Aside0.mk (below_step (by repeat (first | (with_reducible first | exact HB.out | apply below_alloc | apply pw_below_drewN | apply below_drew1 | refine below_set ?_ GE502.out) | exact HB.out)) hb); clear BK502; clear HB; have BK502 := n0_; have HB := n1_; clear n0_ n1_; (try clear hb); (try clear hb2); (try clear hk); (try clear hi)))
    go_ret
    exact ⟨by first | rfl | (simp [errW_none, errW_some] <;> rfl) | (simp [*, errW_none, errW_some] <;> rfl), by repeat (first | (with_reducible first | exact HB.out | apply below_alloc | apply pw_below_drewN | apply below_drew1 | refine below_set ?_ GE502.out) | exact HB.out)⟩
  · replace c5 := Bool.eq_false_iff.mpr c5
    subst c5
    have H1 : (some false) = some r := by rw [if_neg (show ¬ (false = true) by decide)] at H; exact H
    clear H
    have H := H1
    clear H1
    obtain rfl := Option.some.inj H
    go_enter Try.func80, Try.ntmps80
    go_wp2_with (first | ((with_reducible refine gate_dst (N := 3) rfl ?_); refine box_event ?hg (N := 3) ?hd (cs := #[.slice A0_0 l0_0.length c0_0]) (t := 28) ?hr ?_; (case hd => rfl); (case hg => rfl); (case hr => first | (go_simp; done) | (go_simp; rfl)); intro gb502 hg w12 hbox hb; have n0_ := Aside0.mk (below_step (by repeat (first | (with_reducible first | exact HB.out | apply below_alloc | apply pw_below_drewN | apply below_drew1) | exact HB.out)) hb); have n1_ := Aside0.mk (hbox); have n2_ := Aside0.mk ((by rw [hg]; exact (below_size (by repeat (first | (with_reducible first | exact HB.out | apply below_alloc | apply pw_below_drewN | apply below_drew1) | exact HB.out))) : w.heap.size ≤ gb502)); have n3_ := Aside0.mk ((by rw [hg]; exact (below_size (by repeat (first | (with_reducible first | exact HB.out | apply below_alloc | apply pw_below_drewN | apply below_drew1) | exact HB.out))) : w.heap.size ≤ gb502)); clear HB; have HB := n0_; have BK502 := n1_; have GW502 := n2_; have GE502 := n3_; clear n0_ n1_ n2_ n3_; clear hb hbox hg; have hcz13_0 : w12.cell? ⟨gb502, 0, none⟩ = some (.slice A0_0 l0_0.length c0_0) := (blk_cell BK502.out 0).trans rfl; have hfz13_0 := blk_frozen BK502.out 0) | ((with_reducible refine gate_callee (f := 51) rfl ?_); refine goesL_ (some 9) rfl rfl Try.func51 (by kernel_rfl) rfl #[.agg #[.slice A0_0 l0_0.length c0_0], .int .i64 a2] rfl (by (try simp only [List.map_toArray, List.map_cons, List.map_nil]); first | done | rfl | (simp only [List.length_drop, List.length_take]; rfl)) ?_; (with_reducible refine (impl_isHigh.calls k _ _ l0_0 a2 false _ ?side1 ?side2 A4.out).mono ?_); (case side1 => repeat (first | exact (Kd.C_below HR0_0.out HB.out) | (with_reducible refine Kd.C_alloc ?_ _) | (with_reducible refine Kd.C_drewN ?_ _) | (with_reducible refine Kd.C_drew ?_))); (case side2 => exact HC0_0.out); rintro e w14 ⟨rfl, hb⟩; refine ⟨_, rfl, ?_⟩; have n0_ := Aside0.mk (blk_below (g := gb502) (o := .cells #[.slice A0_0 l0_0.length c0_0] 28 (0, 0)) (by (with_reducible repeat (first | refine blk_drewN ?_ _ | refine blk_drew ?_ | refine blk_alloc ?_ _)); exact BK502.out) hb); have n1_ := Aside0.mk (below_step (by repeat (first | (with_reducible first | exact HB.out | apply below_alloc | apply pw_below_drewN | apply below_drew1 | refine below_set ?_ GE502.out) | exact HB.out)) hb); clear BK502; clear HB; have BK502 := n0_; have HB := n1_; clear n0_ n1_; (try clear hb); (try clear hb2); (try clear hk); (try clear hi)))
    go_ret
    exact ⟨by first | rfl | (simp [errW_none, errW_some] <;> rfl) | (simp [*, errW_none, errW_some] <;> rfl), by repeat (first | (with_reducible first | exact HB.out | apply below_alloc | apply pw_below_drewN | apply below_drew1 | refine below_set ?_ GE502.out) | exact HB.out)⟩
end Go.Proofs.Ytioibkdjcmkcpaa.L
end
section
namespace Go.Proofs.Ytioibkdjcmkcpaa.M
open Go.RowKit Go.Proofs.YtioibkdjcmkcpaaW.PrintWords Go.Proofs.YtioibkdjcmkcpaaW.PrintLast Go.Proofs.YtioibkdjcmkcpaaW.PrintMore Go.Proofs.Ytioibkdjcmkcpaa.L
set_option linter.unusedVariables false
structure Arr (p y : List Nat) (b : Nat) : Prop where
  len : y.length = p.length
  hi : ∀ i, y.getD i 0 ≤ b
  up : ∀ i j, (less p i).testBit j = true → y.getD j 0 ≤ y.getD i 0
theorem pcBound_eq (b : Int) : spec_pcBound.f b = some (inB b 0 20) := by simp [spec_pcBound.f, l1In_eq]
theorem isHigh_ev (l : List Int) (b : Int) : Ev (fun k => impl_isHigh.f k l b) (goodB l && inB b 0 20) := by
  refine Ev.bind (isPoset_ev l) (ev_ite (fun e => ?_) (fun e => ?_))
  · rw [e, Bool.true_and]; exact ev_call (within_eq _ _ _) (Ev.now _)
  · rw [Bool.eq_false_iff.mpr e, Bool.false_and]; exact Ev.now _
end Go.Proofs.Ytioibkdjcmkcpaa.M
end
