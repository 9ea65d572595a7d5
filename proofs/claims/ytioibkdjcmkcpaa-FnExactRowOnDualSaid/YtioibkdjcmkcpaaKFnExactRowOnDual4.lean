/- Laws about the given program: the law FnExactRowOnDual answers true for every input that its row lets in; no condition is added to the given statement. Contracts of the Go functions that it reaches, and the plain proof over lists. -/
import Derived.Below
import Derived.ChangeOld
import Derived.Lib.SmallJoins
import Derived.OpenShut
import Derived.ProofKit
import Derived.ShutString
import Derived.SizedLaws
import Derived.Test.YtioibkdjcmkcpaaRows
import Derived.WalkKit
import Derived.Test.YtioibkdjcmkcpaaW0
import Derived.Test.YtioibkdjcmkcpaaW1
import Derived.Test.YtioibkdjcmkcpaaKFnExactRowOnDual0
import Derived.Test.YtioibkdjcmkcpaaKFnExactRowOnDual1
import Derived.Test.YtioibkdjcmkcpaaKFnExactRowOnDual2
import Derived.Test.YtioibkdjcmkcpaaKFnExactRowOnDual3
section
namespace Go.Proofs.Ytioibkdjcmkcpaa.M
open Go.RowKit Go.Proofs.YtioibkdjcmkcpaaW.PrintWords Go.Proofs.YtioibkdjcmkcpaaW.PrintLast Go.Proofs.YtioibkdjcmkcpaaW.PrintMore Go.Proofs.Ytioibkdjcmkcpaa.L
set_option linter.unusedVariables false
def setB (l : List Int) (s : Int) : Bool := goodB l && inB s 0 ((2 ^ l.length - 1 : Nat) : Int)
def idB (l : List Int) (s : Int) : Bool := setB l s && idealB (l.map Int.toNat) s.toNat
theorem setB_of {l : List Int} {s : Int} (h : setB l s = true) : ∃ (p : List Nat) (t : Nat), l = toI p ∧ s = (t : Int) ∧ Good p ∧ t < 2 ^ p.length := by
  simp only [setB, Bool.and_eq_true, inB_iff] at h
  obtain ⟨p, rfl, g⟩ := goodB_of h.1
  have := Nat.two_pow_pos p.length
  rw [toI_len] at h
  exact ⟨p, s.toNat, rfl, by omega, g, by omega⟩
theorem toNat_toI (p : List Nat) : (toI p).map Int.toNat = p := by
  simp only [toI, List.map_map]
  exact (List.map_congr_left (fun x _ => by simp)).trans (List.map_id p)
theorem idB_of {l : List Int} {s : Int} (h : idB l s = true) : ∃ (p : List Nat) (t : Nat), l = toI p ∧ s = (t : Int) ∧ Good p ∧ IsId p t := by
  simp only [idB, Bool.and_eq_true] at h
  obtain ⟨p, t, rfl, rfl, g, ht⟩ := setB_of h.1
  have h2 := h.2
  rw [toNat_toI, Int.toNat_natCast] at h2
  exact ⟨p, t, rfl, rfl, g, (idealB_iff ht).mp h2⟩
theorem setB_mk {p : List Nat} {t : Nat} (g : Good p) (ht : t < 2 ^ p.length) : setB (toI p) (t : Int) = true := by
  simp only [setB, Bool.and_eq_true, inB_iff, toI_len]
  exact ⟨goodB_toI g, by omega, by omega⟩
theorem idB_mk {p : List Nat} {t : Nat} (g : Good p) (ht : IsId p t) : idB (toI p) (t : Int) = true := by
  simp only [idB, Bool.and_eq_true]
  refine ⟨setB_mk g ht.1, ?_⟩
  rw [toNat_toI, Int.toNat_natCast]; exact (idealB_iff ht.1).mpr ht
theorem Good.len63 {p : List Nat} (g : Good p) {s : Nat} (h : s < 2 ^ p.length) : s < 2 ^ 63 := M.lt63 h (by have := g.le; omega)
theorem isSet_ev (l : List Int) (s : Int) : Ev (fun k => impl_isSet.f k l s) (setB l s) := by
  refine Ev.bind (isPoset_ev l) ?_
  unfold setB
  refine ev_ite (fun e => ?_) (fun e => ?_)
  · obtain ⟨p, rfl, g⟩ := goodB_of e
    rw [e, Bool.true_and, toI_len]
    exact ev_call (all_eq g.le) (ev_call (within_eq _ _ _) (Ev.now _))
  · rw [Bool.eq_false_iff.mpr e, Bool.false_and]; exact Ev.now _
theorem items_get {m q : Nat} (hq : q < (items m).length) : (items m)[q] < 10 ∧ m.testBit (items m)[q] = true := mem_items.mp (List.getElem_mem hq)
theorem rd_items {m q : Nat} (hq : q < (items m).length) : rd (toI (items m)) (q : Int) = (((items m)[q] : Nat) : Int) := by rw [rd_toI]; simp [List.getD_eq_getElem?_getD, hq]
theorem close_l0 {p : List Nat} (g : Good p) (s : Nat) (hs : s < 2 ^ p.length) : ∀ (d q a : Nat), q + d = (items s).length → a < 2 ^ p.length →
    Ev (fun k => impl_Poset_close.l0 k (a : Int) (toI (items s)) ((toI (items s)).length : Int) (q : Int) (toI p)) (((((items s).drop q).foldl (fun o e => o ||| less p e) a : Nat)) : Int)
  | 0, q, a, h, ha => by
    refine Ev.step (fun _ => impl_Poset_close.l0.eq_2 ..) (ev_neg (by rw [toI_len]; omega) ?_)
    rw [List.drop_of_length_le (by omega)]; exact Ev.now _
  | d + 1, q, a, h, ha => by
    have hq : q < (items s).length := by omega
    have hm := items_get hq
    have hb := bit_lt hs hm.2
    have hl := items_len s
    refine Ev.step (fun _ => impl_Poset_close.l0.eq_2 ..) ?_
    rw [rd_items hq, toI_len, toI_len]
    refine ev_pos (by omega) (ev_pos (by omega) (ev_pos (by omega) (ev_pos (by omega) (ev_pos (by omega) ?_))))
    rw [rd_less, bits_or (g.len63 ha) (g.lt63 _), wrap_succ (by omega), List.drop_eq_getElem_cons hq, List.foldl_cons, ← toI_len]
    exact close_l0 g s hs d (q + 1) _ (by omega) (Nat.or_lt_two_pow ha (g.lt10 _))
theorem close_ev {p : List Nat} (g : Good p) {s : Nat} (hs : s < 2 ^ p.length) : Ev (fun k => impl_Poset_close.f k (toI p) (s : Int)) ((close p s : Nat) : Int) := by
  refine Ev.bind (items_ev (g.len63 hs)) ?_
  have h := close_l0 g s hs (items s).length 0 s (by omega) hs
  rw [List.drop_zero, foldl_items_n _ _ hs g.le] at h
  exact h
theorem isIdeal_ev (l : List Int) (s : Int) : Ev (fun k => impl_isIdeal.f k l s) (idB l s) := by
  refine Ev.bind (isSet_ev l s) ?_
  unfold idB
  refine ev_ite (fun e => ?_) (fun e => ?_)
  · obtain ⟨p, t, rfl, rfl, g, ht⟩ := setB_of e
    rw [e, Bool.true_and, toNat_toI, Int.toNat_natCast, ← close_beq ht]
    refine Ev.bind (close_ev g ht) ?_
    have : (((close p t : Nat) : Int) == (t : Int)) = (close p t == t) := by
      rw [Bool.eq_iff_iff, beq_iff_eq, beq_iff_eq]; omega
    rw [this]; exact Ev.now _
  · rw [Bool.eq_false_iff.mpr e, Bool.false_and]; exact Ev.now _
theorem poSet_eq (p : List Nat) (s : Int) (h : p.length ≤ 10) : spec_poSet.f (toI p) s = some (inB s 0 ((2 ^ p.length - 1 : Nat) : Int)) := by
  unfold spec_poSet.f; rw [toI_len, shl_one' (by omega), l1In_eq]; rfl
theorem poIdeal_l0 {p : List Nat} (g : Good p) (s : Nat) (hs : s < 2 ^ p.length) : ∀ (d i : Nat), i + d = p.length →
    Ev (fun k => spec_poIdeal.l0 k (s : Int) (toI p) ((toI p).length : Int) (i : Int)) ((List.range' i d).all fun e => !(s.testBit e) || sd (less p e) s == 0)
  | 0, i, h => by
    refine Ev.step (fun _ => spec_poIdeal.l0.eq_2 ..) (ev_neg (by rw [toI_len]; omega) (Ev.now _))
  | d + 1, i, h => by
    have := g.le
    have ih := poIdeal_l0 g s hs d (i + 1) (by omega)
    refine Ev.step (fun _ => spec_poIdeal.l0.eq_2 ..) ?_
    refine ev_pos (by rw [toI_len]; omega) (ev_pos (by omega) (ev_pos (by rw [toI_len]; omega) (ev_call (poIn_eq (by omega)) ?_)))
    rw [rd_less, bits_andNot (g.lt63 _) (g.len63 hs), wrap_succ (by omega), List.range'_succ, List.all_cons]
    refine ev_ite (fun e => ?_) (fun e => ?_)
    · rw [e, Bool.not_true, Bool.false_or]
      refine ev_ite (fun e => ?_) (fun e => ?_)
      · have e' : sd (less p i) s = 0 := by omega
        rw [e', beq_self_eq_true, Bool.true_and]; exact ih
      · have e' : (sd (less p i) s == 0) = false := by rw [beq_eq_false_iff_ne]; omega
        rw [e', Bool.false_and]; exact Ev.now _
    · rw [Bool.eq_false_iff.mpr e, Bool.not_false, Bool.true_or, Bool.true_and]; exact ih
theorem poIdeal_ev {p : List Nat} (g : Good p) {s : Nat} (hs : s < 2 ^ p.length) : Ev (fun k => spec_poIdeal.f k (toI p) (s : Int)) (idealB p s) := poIdeal_l0 g s hs p.length 0 (by omega)
theorem tgIn_ev (l : List Int) (s : Int) : Ev (fun k => spec_tgIn.f k l s) (idB l s) := by
  refine Ev.bind (poGood_ev l) ?_
  unfold idB setB
  refine ev_ite (fun e => ?_) (fun e => ?_)
  · obtain ⟨p, rfl, g⟩ := goodB_of e
    rw [e, Bool.true_and, toI_len, toNat_toI]
    refine ev_call (poSet_eq p s g.le) (ev_ite (fun e => ?_) (fun e => ?_))
    · have b := inB_iff.mp e
      have := Nat.two_pow_pos p.length
      obtain ⟨t, rfl⟩ : ∃ t : Nat, s = (t : Int) := ⟨s.toNat, by omega⟩
      rw [e, Bool.true_and, Int.toNat_natCast]
      exact Ev.bind (poIdeal_ev g (by omega)) (Ev.now _)
    · rw [Bool.eq_false_iff.mpr e, Bool.false_and]; exact Ev.now _
  · rw [Bool.eq_false_iff.mpr e, Bool.false_and, Bool.false_and]; exact Ev.now _
end Go.Proofs.Ytioibkdjcmkcpaa.M
end
section
namespace Go.Proofs.Ytioibkdjcmkcpaa.M
open Go.RowKit Go.Proofs.YtioibkdjcmkcpaaW.PrintWords Go.Proofs.YtioibkdjcmkcpaaW.PrintLast Go.Proofs.YtioibkdjcmkcpaaW.PrintMore Go.Proofs.Ytioibkdjcmkcpaa.L
set_option linter.unusedVariables false
def tg (p : List Nat) (s e : Nat) : Nat := if idealB p (s ^^^ 2 ^ e) = true then s ^^^ 2 ^ e else s
theorem pow_lt' {p : List Nat} {e : Nat} (h : e < p.length) : 2 ^ e < 2 ^ p.length := Nat.pow_lt_pow_right (by decide) h
theorem tg_lt {p : List Nat} {s e : Nat} (hs : s < 2 ^ p.length) (h : e < p.length) : tg p s e < 2 ^ p.length := by
  unfold tg; split
  · exact Nat.xor_lt_two_pow hs (pow_lt' h)
  · exact hs
theorem tg_id {p : List Nat} {s e : Nat} (hs : IsId p s) (h : e < p.length) : IsId p (tg p s e) := by
  unfold tg; split
  · rename_i h2; exact (idealB_iff (Nat.xor_lt_two_pow hs.1 (pow_lt' h))).mp h2
  · exact hs
theorem toggle_ev {p : List Nat} (g : Good p) {s e : Nat} (hs : s < 2 ^ p.length) (he : e < p.length) : Ev (fun k => impl_Poset_toggle.f k (toI p) (s : Int) (e : Int)) ((tg p s e : Nat) : Int) := by
  have gl := g.le
  have hx := Nat.xor_lt_two_pow hs (pow_lt' he)
  refine ev_pos (by omega) ?_
  rw [shl_one (by omega), bits_xor (g.len63 hs) (g.len63 (pow_lt' he))]
  refine Ev.bind (close_ev g hx) ?_
  unfold tg
  rw [← close_beq hx]
  refine ev_ite (fun e => ?_) (fun e => ?_)
  · rw [if_pos (by rw [beq_iff_eq]; omega)]; exact Ev.now _
  · rw [if_neg (by rw [beq_iff_eq]; omega)]; exact Ev.now _
theorem xor_bit (s e i : Nat) : (s ^^^ 2 ^ e).testBit i = (s.testBit i ^^ decide (e = i)) := by rw [Nat.testBit_xor, Nat.testBit_two_pow]
theorem xor_ne {s e i : Nat} (h : e ≠ i) : (s ^^^ 2 ^ e).testBit i = s.testBit i := by rw [xor_bit]; simp [h]
theorem xor_eq (s e : Nat) : (s ^^^ 2 ^ e).testBit e = !s.testBit e := by rw [xor_bit]; simp
def Can (p : List Nat) (s e : Nat) : Prop := (s.testBit e = true → ∀ f, s.testBit f = true → (less p f).testBit e = false) ∧ (s.testBit e = false → ∀ f, (less p e).testBit f = true → s.testBit f = true)
theorem can_iff {p : List Nat} (g : Good p) {s e : Nat} (hs : IsId p s) (he : e < p.length) : idealB p (s ^^^ 2 ^ e) = true ↔ Can p s e := by
  rw [idealB_iff (Nat.xor_lt_two_pow hs.1 (pow_lt' he))]
  constructor
  · rintro ⟨_, h⟩
    refine ⟨fun h1 f hf => ?_, fun h1 f hf => ?_⟩
    · apply Bool.eq_false_iff.mpr
      intro hc
      have b := g.bit hc
      have := h f (by rw [xor_ne (by omega)]; exact hf) e hc
      rw [xor_eq, h1] at this; cases this
    · have b := g.bit hf
      have := h e (by rw [xor_eq, h1]; rfl) f hf
      rwa [xor_ne (by omega)] at this
  · rintro ⟨h1, h2⟩
    refine ⟨Nat.xor_lt_two_pow hs.1 (pow_lt' he), fun f hf i hi => ?_⟩
    have b := g.bit hi
    by_cases c : e = f
    · subst c
      rw [xor_eq, Bool.not_eq_true'] at hf
      rw [xor_ne (by omega)]
      exact h2 hf i hi
    · rw [xor_ne c] at hf
      have hsi := hs.2 f hf i hi
      by_cases c2 : e = i
      · subst c2
        rw [h1 hsi f hf] at hi; cases hi
      · rw [xor_ne c2]; exact hsi
theorem tg_ne {p : List Nat} {s e i : Nat} (h : e ≠ i) : (tg p s e).testBit i = s.testBit i := by
  unfold tg; split
  · exact xor_ne h
  · rfl
theorem tg_eq {p : List Nat} (g : Good p) {s e : Nat} (hs : IsId p s) (he : e < p.length) : (tg p s e).testBit e = true ↔ (s.testBit e = true ∧ ∃ f, s.testBit f = true ∧ (less p f).testBit e = true) ∨ (s.testBit e = false ∧ ∀ f, (less p e).testBit f = true → s.testBit f = true) := by
  have hc := can_iff g hs he
  unfold tg
  cases hb : s.testBit e
  · by_cases c : idealB p (s ^^^ 2 ^ e) = true
    · rw [if_pos c, xor_eq, hb]
      exact ⟨fun _ => .inr ⟨rfl, (hc.mp c).2 hb⟩, fun _ => rfl⟩
    · rw [if_neg c, hb]
      refine ⟨fun h => (by cases h), fun h => ?_⟩
      rcases h with h | h
      · cases h.1
      · exact absurd (hc.mpr ⟨fun h1 => (by rw [hb] at h1; cases h1), fun _ => h.2⟩) c
  · by_cases c : idealB p (s ^^^ 2 ^ e) = true
    · rw [if_pos c, xor_eq, hb]
      refine ⟨fun h => (by cases h), fun h => ?_⟩
      rcases h with ⟨_, f, hf, hl⟩ | h
      · rw [(hc.mp c).1 hb f hf] at hl; cases hl
      · cases h.1
    · rw [if_neg c, hb]
      refine ⟨fun _ => .inl ⟨rfl, ?_⟩, fun _ => rfl⟩
      apply Classical.byContradiction
      intro hn
      refine c (hc.mpr ⟨fun _ f hf => ?_, fun h => by rw [hb] at h; cases h⟩)
      apply Bool.eq_false_iff.mpr
      intro hl
      exact hn ⟨f, hf, hl⟩
def bot (p : List Nat) (u : Nat) : Nat := foldBits p.length u (fun o e => if less p e &&& u = 0 then o ||| 2 ^ e else o) 0
theorem and_zero {a b : Nat} : a &&& b = 0 ↔ ∀ i, a.testBit i = true → b.testBit i = false := by
  constructor
  · intro h i hi
    have : (a &&& b).testBit i = false := by rw [h, Nat.zero_testBit]
    rw [Nat.testBit_and, hi, Bool.true_and] at this; exact this
  · intro h
    apply Nat.eq_of_testBit_eq
    intro i
    rw [Nat.testBit_and, Nat.zero_testBit]
    cases ha : a.testBit i
    · rfl
    · rw [h i ha]; rfl
theorem foldPut_bit (c : Nat → Prop) [DecidablePred c] (u a i : Nat) : ∀ n, (foldBits n u (fun o e => if c e then o ||| 2 ^ e else o) a).testBit i = true ↔ (a.testBit i = true ∨ (i < n ∧ u.testBit i = true ∧ c i))
  | 0 => by simp [foldBits]
  | n + 1 => by
    rw [foldBits_succ]
    have ih := foldPut_bit c u a i n
    by_cases hu : u.testBit n = true
    · rw [if_pos hu]
      by_cases hc : c n
      · rw [if_pos hc, Nat.testBit_or, Bool.or_eq_true, ih, Nat.testBit_two_pow, decide_eq_true_eq]
        constructor
        · rintro ((h | ⟨h1, h2⟩) | h)
          · exact .inl h
          · exact .inr ⟨by omega, h2⟩
          · subst h; exact .inr ⟨by omega, hu, hc⟩
        · rintro (h | ⟨h1, h2⟩)
          · exact .inl (.inl h)
          · by_cases e : n = i
            · exact .inr e
            · exact .inl (.inr ⟨by omega, h2⟩)
      · rw [if_neg hc, ih]
        refine or_congr_right ⟨fun h => ⟨by omega, h.2⟩, fun h => ⟨?_, h.2⟩⟩
        have : i ≠ n := fun e => by subst e; exact hc h.2.2
        omega
    · rw [if_neg hu, ih]
      refine or_congr_right ⟨fun h => ⟨by omega, h.2⟩, fun h => ⟨?_, h.2⟩⟩
      have : i ≠ n := fun e => by subst e; exact hu h.2.1
      omega
theorem bot_bit {p : List Nat} {u : Nat} (hu : u < 2 ^ p.length) (i : Nat) : (bot p u).testBit i = true ↔ u.testBit i = true ∧ ∀ j, (less p i).testBit j = true → u.testBit j = false := by
  unfold bot
  rw [foldPut_bit (fun e => less p e &&& u = 0), Nat.zero_testBit]
  constructor
  · rintro (h | ⟨h1, h2, h3⟩)
    · cases h
    · exact ⟨h2, and_zero.mp h3⟩
  · rintro ⟨h1, h2⟩
    exact .inr ⟨bit_lt hu h1, h1, and_zero.mpr h2⟩
theorem put_lt {n : Nat} (c : Nat → Prop) [DecidablePred c] (u : Nat) : foldBits n u (fun o e => if c e then o ||| 2 ^ e else o) 0 < 2 ^ n :=
  foldBits_inv _ _ _ _ (· < 2 ^ n) (Nat.two_pow_pos _) (fun a e ha he _ => by
    split
    · exact Nat.or_lt_two_pow ha (Nat.pow_lt_pow_right (by decide) he)
    · exact ha)
theorem bot_lt {p : List Nat} (u : Nat) : bot p u < 2 ^ p.length := put_lt _ u
def row (p : List Nat) (s : Nat) : Nat := close p (bot p (sd (full p) s))
theorem co_lt {p : List Nat} (s : Nat) : sd (full p) s < 2 ^ p.length := sd_lt s (full_lt p)
theorem co_bit {p : List Nat} {s i : Nat} : (sd (full p) s).testBit i = true ↔ i < p.length ∧ s.testBit i = false := by
  rw [sd_bit, full_bit, Bool.and_eq_true, decide_eq_true_eq, Bool.not_eq_true']
theorem row_lt {p : List Nat} (g : Good p) (s : Nat) : row p s < 2 ^ p.length := close_lt g (bot_lt _)
theorem row_bit {p : List Nat} (g : Good p) {s : Nat} (hs : IsId p s) (i : Nat) : (row p s).testBit i = true ↔ ∃ e, e < p.length ∧ s.testBit e = false ∧ (∀ j, (less p e).testBit j = true → s.testBit j = true) ∧ (e = i ∨ (less p e).testBit i = true) := by
  unfold row
  rw [close_bit (bot_lt _)]
  have hb : ∀ e, (bot p (sd (full p) s)).testBit e = true ↔ e < p.length ∧ s.testBit e = false ∧ (∀ j, (less p e).testBit j = true → s.testBit j = true) := by
    intro e
    rw [bot_bit (co_lt s), co_bit, and_assoc]
    refine and_congr_right fun h1 => and_congr_right fun h2 => forall_congr' fun j => forall_congr' fun hj => ?_
    have b := g.bit hj
    rw [← Bool.not_eq_true, co_bit, not_and, Bool.not_eq_false]
    exact ⟨fun h => h (by omega), fun h _ => h⟩
  constructor
  · rintro (h | ⟨e, h, hl⟩)
    · have := (hb i).mp h
      exact ⟨i, this.1, this.2.1, this.2.2, .inl rfl⟩
    · have := (hb e).mp h
      exact ⟨e, this.1, this.2.1, this.2.2, .inr hl⟩
  · rintro ⟨e, h1, h2, h3, h4⟩
    rcases h4 with h4 | h4
    · subst h4; exact .inl ((hb e).mpr ⟨h1, h2, h3⟩)
    · exact .inr ⟨e, (hb e).mpr ⟨h1, h2, h3⟩, h4⟩
theorem row_id {p : List Nat} (g : Good p) {s : Nat} (hs : IsId p s) : IsId p (row p s) := by
  refine ⟨row_lt g s, fun e he i hi => ?_⟩
  rw [row_bit g hs] at he ⊢
  obtain ⟨f, h1, h2, h3, h4⟩ := he
  refine ⟨f, h1, h2, h3, .inr ?_⟩
  rcases h4 with h4 | h4
  · rw [h4]; exact hi
  · exact g.tr' h4 hi
structure Mid (p : List Nat) (s t : Nat) (P : Nat → Prop) (x : Nat) : Prop where
  id : IsId p x
  on : ∀ i, i < p.length → P i → x.testBit i = t.testBit i
  off : ∀ i, i < p.length → ¬ P i → x.testBit i = s.testBit i
theorem Mid.step {p : List Nat} {s t x i : Nat} {P Q : Nat → Prop} (I : Mid p s t P x) (hi : i < p.length) (hQ : ∀ k, k < p.length → (Q k ↔ P k ∨ k = i)) (h : (tg p x i).testBit i = t.testBit i) : Mid p s t Q (tg p x i) := by
  refine ⟨tg_id I.id hi, fun k hk hq => ?_, fun k hk hq => ?_⟩
  · by_cases c : i = k
    · subst c; exact h
    · rw [tg_ne c]
      rcases (hQ k hk).mp hq with h | h
      · exact I.on k hk h
      · exact absurd h.symm c
  · rw [tg_ne (fun c => hq ((hQ k hk).mpr (.inr c.symm)))]
    exact I.off k hk fun h => hq ((hQ k hk).mpr (.inl h))
theorem Mid.same {p : List Nat} {s t x : Nat} {P Q : Nat → Prop} (I : Mid p s t P x) (hQ : ∀ k, k < p.length → (Q k ↔ P k)) : Mid p s t Q x :=
  ⟨I.id, fun k hk h => I.on k hk ((hQ k hk).mp h), fun k hk h => I.off k hk fun h2 => h ((hQ k hk).mpr h2)⟩
theorem Mid.all {p : List Nat} {s t x : Nat} {P : Nat → Prop} (I : Mid p s t P x) (ht : t < 2 ^ p.length) (h : ∀ i, i < p.length → P i) : x = t := by
  apply Nat.eq_of_testBit_eq
  intro i
  by_cases hi : i < p.length
  · exact I.on i hi (h i hi)
  · have big : ∀ y, y < 2 ^ p.length → y.testBit i = false := fun y hy => Nat.testBit_lt_two_pow (Nat.lt_of_lt_of_le hy (Nat.pow_le_pow_right (by decide) (by omega)))
    rw [big x I.id.1, big t ht]
theorem Mid.none {p : List Nat} {s : Nat} (t : Nat) (hs : IsId p s) {P : Nat → Prop} (h : ∀ i, i < p.length → ¬ P i) : Mid p s t P s :=
  ⟨hs, fun i hi hp => absurd hp (h i hi), fun _ _ _ => rfl⟩
theorem Mid.row {p : List Nat} (g : Good p) {s x i : Nat} {P Q : Nat → Prop} (hs : IsId p s) (I : Mid p s (row p s) P x) (hi : i < p.length) (hP : ¬ P i) (up : ∀ k, (less p k).testBit i = true → P k)
    (dn : ∀ j, (less p i).testBit j = true → ¬ P j) (hQ : ∀ k, k < p.length → (Q k ↔ P k ∨ k = i)) : Mid p s (M.row p s) Q (tg p x i) := by
  refine I.step hi hQ ?_
  have xi := I.off i hi hP
  rw [Bool.eq_iff_iff, tg_eq g I.id hi, xi]
  cases hb : s.testBit i
  · constructor
    · rintro (h | ⟨_, h⟩)
      · cases h.1
      · rw [row_bit g hs]
        refine ⟨i, hi, hb, fun j hj => ?_, .inl rfl⟩
        have b := g.bit hj
        rw [← I.off j (by omega) (dn j hj)]; exact h j hj
    · intro h
      rw [row_bit g hs] at h
      obtain ⟨e, h1, h2, h3, h4⟩ := h
      refine .inr ⟨rfl, fun f hf => ?_⟩
      have b := g.bit hf
      rw [I.off f (by omega) (dn f hf)]
      rcases h4 with h4 | h4
      · rw [h4] at h3; exact h3 f hf
      · have := h3 i h4
        rw [hb] at this; cases this
  · constructor
    · rintro (⟨_, f, hf, hl⟩ | h)
      · have b := g.bit hl
        have := I.on f b.2 (up f hl)
        rw [hf] at this
        exact (row_id g hs).2 f this.symm i hl
      · cases h.1
    · intro h
      rw [row_bit g hs] at h
      obtain ⟨e, h1, h2, h3, h4⟩ := h
      rcases h4 with h4 | h4
      · subst h4; rw [hb] at h2; cases h2
      · refine .inl ⟨rfl, e, ?_, h4⟩
        rw [I.on e h1 (up e h4), row_bit g hs]
        exact ⟨e, h1, h2, h3, .inl rfl⟩
def top (p : List Nat) (s : Nat) : Nat := foldBits p.length s (fun o e => sd o (less p e)) s
theorem foldSd_bit' (p : List Nat) (s a i : Nat) : ∀ n, (foldBits n s (fun o e => sd o (less p e)) a).testBit i = true ↔ (a.testBit i = true ∧ ∀ e, e < n → s.testBit e = true → (less p e).testBit i = false)
  | 0 => by simp [foldBits]
  | n + 1 => by
    rw [foldBits_succ]
    have ih := foldSd_bit' p s a i n
    split
    · rename_i hs
      rw [sd_bit, Bool.and_eq_true, ih, Bool.not_eq_true']
      constructor
      · rintro ⟨⟨h1, h2⟩, h3⟩
        refine ⟨h1, fun e he hb => ?_⟩
        by_cases c : e = n
        · subst c; exact h3
        · exact h2 e (by omega) hb
      · rintro ⟨h1, h2⟩
        exact ⟨⟨h1, fun e he hb => h2 e (by omega) hb⟩, h2 n (by omega) hs⟩
    · rename_i hs
      rw [ih]
      constructor
      · rintro ⟨h1, h2⟩
        refine ⟨h1, fun e he hb => ?_⟩
        by_cases c : e = n
        · subst c; exact absurd hb hs
        · exact h2 e (by omega) hb
      · rintro ⟨h1, h2⟩
        exact ⟨h1, fun e he hb => h2 e (by omega) hb⟩
theorem top_bit {p : List Nat} {s : Nat} (hs : s < 2 ^ p.length) (i : Nat) : (top p s).testBit i = true ↔ s.testBit i = true ∧ ∀ e, s.testBit e = true → (less p e).testBit i = false := by
  unfold top
  rw [foldSd_bit']
  exact and_congr_right fun _ => ⟨fun h e he => h e (bit_lt hs he) he, fun h e _ he => h e he⟩
theorem top_lt {p : List Nat} {s : Nat} (hs : s < 2 ^ p.length) : top p s < 2 ^ p.length := foldBits_inv _ _ _ _ (· < 2 ^ p.length) hs (fun a e ha _ _ => sd_lt _ ha)
def back (p : List Nat) (s : Nat) : Nat := foldBits p.length (sd (full p) (top p s)) (fun o e => if less p e &&& top p s = 0 then o ||| 2 ^ e else o) 0
theorem back_lt {p : List Nat} (s : Nat) : back p s < 2 ^ p.length := put_lt _ _
theorem back_bit {p : List Nat} (s : Nat) (i : Nat) : (back p s).testBit i = true ↔ i < p.length ∧ (top p s).testBit i = false ∧ ∀ j, (less p i).testBit j = true → (top p s).testBit j = false := by
  unfold back
  rw [foldPut_bit (fun e => less p e &&& top p s = 0), Nat.zero_testBit, co_bit, and_zero]
  constructor
  · rintro (h | ⟨_, ⟨h1, h2⟩, h3⟩)
    · cases h
    · exact ⟨h1, h2, h3⟩
  · rintro ⟨h1, h2, h3⟩
    exact .inr ⟨h1, ⟨h1, h2⟩, h3⟩
theorem Mid.back {p : List Nat} (g : Good p) {s x i : Nat} {P Q : Nat → Prop} (hs : IsId p s) (I : Mid p s (back p s) P x) (hi : i < p.length) (hP : ¬ P i) (up : ∀ k, (less p k).testBit i = true → ¬ P k)
    (dn : ∀ j, (less p i).testBit j = true → P j) (hQ : ∀ k, k < p.length → (Q k ↔ P k ∨ k = i)) : Mid p s (M.back p s) Q (tg p x i) := by
  refine I.step hi hQ ?_
  have xi := I.off i hi hP
  rw [Bool.eq_iff_iff, tg_eq g I.id hi, xi, back_bit]
  cases hb : s.testBit i
  · have ht : (top p s).testBit i = false := by
      apply Bool.eq_false_iff.mpr; intro h; rw [top_bit hs.1, hb] at h; cases h.1
    constructor
    · rintro (h | ⟨_, h⟩)
      · cases h.1
      · refine ⟨hi, ht, fun j hj => ?_⟩
        have b := g.bit hj
        have := h j hj
        rw [I.on j (by omega) (dn j hj), back_bit] at this
        exact this.2.1
    · rintro ⟨_, _, h⟩
      refine .inr ⟨rfl, fun f hf => ?_⟩
      have b := g.bit hf
      rw [I.on f (by omega) (dn f hf), back_bit]
      exact ⟨by omega, h f hf, fun j hj => h j (g.tr' hf hj)⟩
  · constructor
    · rintro (⟨_, f, hf, hl⟩ | h)
      · have b := g.bit hl
        rw [I.off f b.2 (up f hl)] at hf
        refine ⟨hi, ?_, fun j hj => ?_⟩
        · apply Bool.eq_false_iff.mpr; intro h; rw [top_bit hs.1] at h
          rw [h.2 f hf] at hl; cases hl
        · apply Bool.eq_false_iff.mpr; intro h; rw [top_bit hs.1] at h
          rw [h.2 i hb] at hj; cases hj
      · cases h.1
    · rintro ⟨_, h1, h2⟩
      refine .inl ⟨rfl, ?_⟩
      apply Classical.byContradiction
      intro hn
      apply Bool.eq_false_iff.mp h1
      rw [top_bit hs.1]
      refine ⟨hb, fun e he => ?_⟩
      apply Bool.eq_false_iff.mpr
      intro hl
      have b := g.bit hl
      exact hn ⟨e, by rw [I.off e b.2 (up e hl)]; exact he, hl⟩
theorem fold_back {p : List Nat} (g : Good p) {s : Nat} (hs : IsId p s) : (List.range p.length).foldl (tg p) s = back p s := by
  have : ∀ n, n ≤ p.length → Mid p s (back p s) (· < n) ((List.range n).foldl (tg p) s) := by
    intro n
    induction n with
    | zero => intro _; exact Mid.none _ hs (fun i _ h => by omega)
    | succ n ih =>
      intro hn
      rw [List.range_succ, List.foldl_append]
      refine (ih (by omega)).back g hs (by omega) (by omega) (fun k hk => ?_) (fun j hj => ?_) (fun k _ => by omega)
      · have := g.bit hk; omega
      · have := g.bit hj; omega
  exact (this p.length (Nat.le_refl _)).all (back_lt s) (fun i hi => hi)
theorem fold_row {p : List Nat} (g : Good p) {s : Nat} (hs : IsId p s) : (List.range p.length).reverse.foldl (tg p) s = row p s := by
  have : ∀ d n, n + d = p.length → Mid p s (row p s) (n ≤ ·) ((List.range' n d).reverse.foldl (tg p) s) := by
    intro d
    induction d with
    | zero => intro n hn; exact Mid.none _ hs (fun i _ h => by omega)
    | succ d ih =>
      intro n hn
      rw [List.range'_succ, List.reverse_cons, List.foldl_append]
      refine (ih (n + 1) (by omega)).row g hs (by omega) (by omega) (fun k hk => ?_) (fun j hj => ?_) (fun k _ => by omega)
      · have := g.bit hk; omega
      · have := g.bit hj; omega
  have h := this p.length 0 (by omega)
  rw [← List.range_eq_range'] at h
  exact h.all (row_lt g s) (fun i hi => Nat.zero_le _)
theorem bottom_l0 {p : List Nat} (g : Good p) (u : Nat) (hu : u < 2 ^ p.length) : ∀ (d q a : Nat), q + d = (items u).length → a < 2 ^ p.length →
    Ev (fun k => impl_Poset_bottom.l0 k (u : Int) (a : Int) (toI (items u)) ((toI (items u)).length : Int) (q : Int) (toI p)) (((((items u).drop q).foldl (fun o e => if less p e &&& u = 0 then o ||| 2 ^ e else o) a : Nat)) : Int)
  | 0, q, a, h, ha => by
    refine Ev.step (fun _ => impl_Poset_bottom.l0.eq_2 ..) (ev_neg (by rw [toI_len]; omega) ?_)
    rw [List.drop_of_length_le (by omega)]; exact Ev.now _
  | d + 1, q, a, h, ha => by
    have gl := g.le
    have hq : q < (items u).length := by omega
    have hm := items_get hq
    have hb := bit_lt hu hm.2
    have hl := items_len u
    have h2 := pow_lt' hb
    refine Ev.step (fun _ => impl_Poset_bottom.l0.eq_2 ..) ?_
    rw [rd_items hq]
    refine ev_pos (by rw [toI_len]; omega) (ev_pos (by omega) (ev_pos (by rw [toI_len]; omega) (ev_pos (by omega) (ev_pos (by rw [toI_len]; omega) ?_))))
    rw [rd_less, bits_and (g.lt63 _) (g.len63 hu), wrap_succ (by omega), shl_one (by omega), bits_or (g.len63 ha) (g.len63 h2), List.drop_eq_getElem_cons hq, List.foldl_cons]
    refine ev_ite (fun e => ?_) (fun e => ?_)
    · rw [if_pos (by omega)]
      exact bottom_l0 g u hu d (q + 1) _ (by omega) (Nat.or_lt_two_pow ha h2)
    · rw [if_neg (by omega)]
      exact bottom_l0 g u hu d (q + 1) _ (by omega) ha
theorem bottom_ev {p : List Nat} (g : Good p) {u : Nat} (hu : u < 2 ^ p.length) : Ev (fun k => impl_Poset_bottom.f k (toI p) (u : Int)) ((bot p u : Nat) : Int) := by
  refine Ev.bind (items_ev (g.len63 hu)) ?_
  have h := bottom_l0 g u hu _ 0 0 (Nat.zero_add _) (Nat.two_pow_pos _)
  rw [List.drop_zero, foldl_items_n _ _ hu g.le] at h
  exact h
theorem row_ev {p : List Nat} (g : Good p) {s : Nat} (hs : s < 2 ^ p.length) : Ev (fun k => impl_Poset_row.f k (toI p) (s : Int)) ((row p s : Nat) : Int) := by
  refine ev_call (all_eq g.le) ?_
  rw [bits_andNot (g.len63 (full_lt p)) (g.len63 hs)]
  exact Ev.bind (bottom_ev g (co_lt s)) (Ev.bind (close_ev g (bot_lt _)) (Ev.now _))
theorem poBottom_l0 {p : List Nat} (g : Good p) (u : Nat) (hu : u < 2 ^ p.length) : ∀ (d i a : Nat), i + d = p.length → a < 2 ^ p.length →
    Ev (fun k => spec_poBottom.l0 k (u : Int) (a : Int) (toI p) ((toI p).length : Int) (i : Int)) (((List.range' i d).foldl (fun o e => if u.testBit e = true then (if less p e &&& u = 0 then o ||| 2 ^ e else o) else o) a : Nat) : Int)
  | 0, i, a, h, ha => Ev.step (fun _ => spec_poBottom.l0.eq_2 ..) (ev_neg (by rw [toI_len]; omega) (Ev.now _))
  | d + 1, i, a, h, ha => by
    have gl := g.le
    have h2 := pow_lt' (p := p) (e := i) (by omega)
    refine Ev.step (fun _ => spec_poBottom.l0.eq_2 ..) (ev_pos (by rw [toI_len]; omega) (ev_pos (by omega) (ev_pos (by rw [toI_len]; omega) (ev_call (poIn_eq (by omega)) ?_))))
    rw [rd_less, bits_and (g.lt63 _) (g.len63 hu), wrap_succ (by omega), shl_one (by omega), bits_or (g.len63 ha) (g.len63 h2), List.range'_succ, List.foldl_cons]
    refine ev_ite (fun e => ?_) (fun e => ?_)
    · rw [if_pos e]
      refine ev_ite (fun e => ?_) (fun e => ?_)
      · rw [if_pos (by omega)]; exact poBottom_l0 g u hu d (i + 1) _ (by omega) (Nat.or_lt_two_pow ha h2)
      · rw [if_neg (by omega)]; exact poBottom_l0 g u hu d (i + 1) _ (by omega) ha
    · rw [if_neg e]; exact poBottom_l0 g u hu d (i + 1) _ (by omega) ha
theorem poBottom_ev {p : List Nat} (g : Good p) {u : Nat} (hu : u < 2 ^ p.length) : Ev (fun k => spec_poBottom.f k (toI p) (u : Int)) ((bot p u : Nat) : Int) := by
  have h := poBottom_l0 g u hu p.length 0 0 (by omega) (Nat.two_pow_pos _)
  rw [← List.range_eq_range'] at h
  exact h
theorem poDown_l0 {p : List Nat} (g : Good p) (u : Nat) (hu : u < 2 ^ p.length) : ∀ (d i a : Nat), i + d = p.length → a < 2 ^ p.length →
    Ev (fun k => spec_poDown.l0 k (u : Int) (a : Int) (toI p) ((toI p).length : Int) (i : Int)) (((List.range' i d).foldl (fun o e => if u.testBit e = true then o ||| less p e else o) a : Nat) : Int)
  | 0, i, a, h, ha => Ev.step (fun _ => spec_poDown.l0.eq_2 ..) (ev_neg (by rw [toI_len]; omega) (Ev.now _))
  | d + 1, i, a, h, ha => by
    have gl := g.le
    refine Ev.step (fun _ => spec_poDown.l0.eq_2 ..) (ev_pos (by rw [toI_len]; omega) (ev_pos (by omega) (ev_pos (by rw [toI_len]; omega) (ev_call (poIn_eq (by omega)) ?_))))
    rw [rd_less, bits_or (g.len63 ha) (g.lt63 _), wrap_succ (by omega), List.range'_succ, List.foldl_cons]
    refine ev_ite (fun e => ?_) (fun e => ?_)
    · rw [if_pos e]; exact poDown_l0 g u hu d (i + 1) _ (by omega) (Nat.or_lt_two_pow ha (g.lt10 _))
    · rw [if_neg e]; exact poDown_l0 g u hu d (i + 1) _ (by omega) ha
theorem poDown_ev {p : List Nat} (g : Good p) {u : Nat} (hu : u < 2 ^ p.length) : Ev (fun k => spec_poDown.f k (toI p) (u : Int)) ((close p u : Nat) : Int) := by
  have h := poDown_l0 g u hu p.length 0 u (by omega) hu
  rw [← List.range_eq_range'] at h
  exact h
theorem co_sub {p : List Nat} {s : Nat} (hs : s < 2 ^ p.length) : 2 ^ p.length - 1 - s = sd (full p) s := by
  apply Nat.eq_of_testBit_eq
  intro i
  rw [show 2 ^ p.length - 1 - s = 2 ^ p.length - (s + 1) by omega, Nat.testBit_two_pow_sub_succ hs, sd_bit, full_bit]
theorem svRow_ev {p : List Nat} (g : Good p) {s : Nat} (hs : s < 2 ^ p.length) : Ev (fun k => spec_svRow.f k (toI p) (s : Int)) ((row p s : Nat) : Int) := by
  have gl := g.le
  have h1 := Nat.two_pow_pos p.length
  have h2 := g.len63 (full_lt p)
  have hf : full p = 2 ^ p.length - 1 := rfl
  unfold spec_svRow.f
  rw [toI_len, shl_one' (by omega), wrap_id (by omega) (by omega), show ((2 ^ p.length - 1 : Nat) : Int) - (s : Int) = ((2 ^ p.length - 1 - s : Nat) : Int) by omega, co_sub hs]
  exact Ev.bind (poBottom_ev g (co_lt s)) (Ev.bind (poDown_ev g (bot_lt _)) (Ev.now _))
theorem poTop_l0 {p : List Nat} (g : Good p) (u : Nat) (hu : u < 2 ^ p.length) : ∀ (d i a : Nat), i + d = p.length → a < 2 ^ p.length →
    Ev (fun k => spec_poTop.l0 k (u : Int) (a : Int) (toI p) ((toI p).length : Int) (i : Int)) (((List.range' i d).foldl (fun o e => if u.testBit e = true then sd o (less p e) else o) a : Nat) : Int)
  | 0, i, a, h, ha => Ev.step (fun _ => spec_poTop.l0.eq_2 ..) (ev_neg (by rw [toI_len]; omega) (Ev.now _))
  | d + 1, i, a, h, ha => by
    have gl := g.le
    refine Ev.step (fun _ => spec_poTop.l0.eq_2 ..) (ev_pos (by rw [toI_len]; omega) (ev_pos (by omega) (ev_pos (by rw [toI_len]; omega) (ev_call (poIn_eq (by omega)) ?_))))
    rw [rd_less, bits_andNot (g.len63 ha) (g.lt63 _), wrap_succ (by omega), List.range'_succ, List.foldl_cons]
    refine ev_ite (fun e => ?_) (fun e => ?_)
    · rw [if_pos e]; exact poTop_l0 g u hu d (i + 1) _ (by omega) (sd_lt _ ha)
    · rw [if_neg e]; exact poTop_l0 g u hu d (i + 1) _ (by omega) ha
theorem poTop_ev {p : List Nat} (g : Good p) {u : Nat} (hu : u < 2 ^ p.length) : Ev (fun k => spec_poTop.f k (toI p) (u : Int)) ((top p u : Nat) : Int) := by
  have h := poTop_l0 g u hu p.length 0 u (by omega) hu
  rw [← List.range_eq_range'] at h
  exact h
theorem tgBack_l0 {p : List Nat} (g : Good p) (u : Nat) (hu : u < 2 ^ p.length) : ∀ (d i a : Nat), i + d = p.length → a < 2 ^ p.length →
    Ev (fun k => spec_tgBack.l0 k (u : Int) (a : Int) (toI p) ((toI p).length : Int) (i : Int)) (((List.range' i d).foldl (fun o e => if (sd (full p) u).testBit e = true then (if less p e &&& u = 0 then o ||| 2 ^ e else o) else o) a : Nat) : Int)
  | 0, i, a, h, ha => Ev.step (fun _ => spec_tgBack.l0.eq_2 ..) (ev_neg (by rw [toI_len]; omega) (Ev.now _))
  | d + 1, i, a, h, ha => by
    have gl := g.le
    have h2 := pow_lt' (p := p) (e := i) (by omega)
    refine Ev.step (fun _ => spec_tgBack.l0.eq_2 ..) (ev_pos (by rw [toI_len]; omega) (ev_pos (by omega) (ev_pos (by rw [toI_len]; omega) (ev_call (poIn_eq (by omega)) ?_))))
    rw [rd_less, bits_and (g.lt63 _) (g.len63 hu), wrap_succ (by omega), shl_one (by omega), bits_or (g.len63 ha) (g.len63 h2), List.range'_succ, List.foldl_cons]
    refine ev_ite (fun e => ?_) (fun e => ?_)
    · rw [if_neg (fun h => by rw [co_bit, e] at h; cases h.2)]; exact tgBack_l0 g u hu d (i + 1) _ (by omega) ha
    · rw [if_pos (by rw [co_bit]; exact ⟨by omega, Bool.eq_false_iff.mpr e⟩)]
      refine ev_ite (fun e => ?_) (fun e => ?_)
      · rw [if_pos (by omega)]; exact tgBack_l0 g u hu d (i + 1) _ (by omega) (Nat.or_lt_two_pow ha h2)
      · rw [if_neg (by omega)]; exact tgBack_l0 g u hu d (i + 1) _ (by omega) ha
theorem tgBack_ev {p : List Nat} (g : Good p) {s : Nat} (hs : s < 2 ^ p.length) : Ev (fun k => spec_tgBack.f k (toI p) (s : Int)) ((back p s : Nat) : Int) := by
  refine Ev.bind (poTop_ev g hs) ?_
  have h := tgBack_l0 g (top p s) (top_lt hs) p.length 0 0 (by omega) (Nat.two_pow_pos _)
  rw [← List.range_eq_range'] at h
  exact h
theorem implBack_l0 {p : List Nat} (g : Good p) : ∀ (d i s : Nat), i + d = p.length → s < 2 ^ p.length →
    Ev (fun k => impl_Poset_back.l0 k (s : Int) (p.length : Int) (i : Int) (toI p)) (((List.range' i d).foldl (tg p) s : Nat) : Int)
  | 0, i, s, h, hs => Ev.step (fun _ => impl_Poset_back.l0.eq_2 ..) (ev_neg (by omega) (Ev.now _))
  | d + 1, i, s, h, hs => by
    have gl := g.le
    refine Ev.step (fun _ => impl_Poset_back.l0.eq_2 ..) (ev_pos (by omega) (Ev.bind (toggle_ev g hs (by omega)) ?_))
    rw [wrap_succ (by omega), List.range'_succ, List.foldl_cons]
    exact implBack_l0 g d (i + 1) _ (by omega) (tg_lt hs (by omega))
theorem implBack_ev {p : List Nat} (g : Good p) {s : Nat} (hs : IsId p s) : Ev (fun k => impl_Poset_back.f k (toI p) (s : Int)) ((back p s : Nat) : Int) := by
  refine ev_call (n_eq _) ?_
  rw [toI_len, ← fold_back g hs]
  have h := implBack_l0 g p.length 0 s (by omega) hs.1
  rw [← List.range_eq_range'] at h
  exact h
end Go.Proofs.Ytioibkdjcmkcpaa.M
end
section
namespace Go.Proofs.Ytioibkdjcmkcpaa.M
open Go.RowKit Go.Proofs.YtioibkdjcmkcpaaW.PrintWords Go.Proofs.YtioibkdjcmkcpaaW.PrintLast Go.Proofs.YtioibkdjcmkcpaaW.PrintMore Go.Proofs.Ytioibkdjcmkcpaa.L
set_option linter.unusedVariables false
def dualN (p : List Nat) (s : Nat) : Nat := (List.range' 0 p.length).foldl (fun o i => if s.testBit i = true then o else o ||| 2 ^ (p.length - 1 - i)) 0
theorem foldl_congr {α β : Type} {f g : α → β → α} : ∀ (l : List β) (a : α), (∀ a x, x ∈ l → f a x = g a x) → l.foldl f a = l.foldl g a
  | [], _, _ => rfl
  | x :: l, a, h => by
    rw [List.foldl_cons, List.foldl_cons, h a x List.mem_cons_self]
    exact foldl_congr l _ fun a y hy => h a y (List.mem_cons_of_mem _ hy)
theorem bit_full_sd {p : List Nat} {s i : Nat} (hi : i < p.length) : (sd (full p) s).testBit i = !s.testBit i := by
  rw [sd_bit, full_bit, decide_eq_true hi, Bool.true_and]
theorem pow_lt_pow' {i n : Nat} (h : i < n) : 2 ^ i < 2 ^ n := Nat.pow_lt_pow_right (by decide) h
theorem dual_l0 {p : List Nat} (g : Good p) (s : Nat) (hs : s < 2 ^ p.length) : ∀ (d q a : Nat), q + d = (items s).length → a < 2 ^ p.length →
    Ev (fun k => impl_Poset_dualIdeal.l0 k (a : Int) (toI (items s)) ((toI (items s)).length : Int) (q : Int) (toI p)) ((((items s).drop q).foldl (fun o e => o ||| 2 ^ (p.length - 1 - e)) a : Nat) : Int)
  | 0, q, a, h, ha => by
    refine Ev.step (fun _ => impl_Poset_dualIdeal.l0.eq_2 ..) (ev_neg (by rw [toI_len]; omega) ?_)
    rw [List.drop_of_length_le (by omega)]; exact Ev.now _
  | d + 1, q, a, h, ha => by
    have hq : q < (items s).length := by omega
    have hm := items_get hq
    have hb := bit_lt hs hm.2
    have hl := items_len s
    have gl := g.le
    refine Ev.step (fun _ => impl_Poset_dualIdeal.l0.eq_2 ..) ?_
    rw [rd_items hq, toI_len]
    refine ev_pos (by omega) (ev_pos (by omega) (ev_pos (by omega) (ev_call (n_eq _) ?_)))
    rw [toI_len, wrap_id (x := (p.length : Int) - 1) (by omega) (by omega), wrap_id (by omega) (by omega), show ((p.length : Int) - 1 - ((items s)[q] : Nat)) = ((p.length - 1 - (items s)[q] : Nat) : Int) by omega, shl_one (by omega)]
    refine ev_pos (by omega) ?_
    rw [bits_or (g.len63 ha) (M.lt63 (pow_lt_pow' (show p.length - 1 - (items s)[q] < 11 by omega)) (by omega)), wrap_succ (by omega), List.drop_eq_getElem_cons hq, List.foldl_cons, ← toI_len (items s)]
    exact dual_l0 g s hs d (q + 1) _ (by omega) (Nat.or_lt_two_pow ha (pow_lt_pow' (by omega)))
theorem dualIdeal_ev {p : List Nat} (g : Good p) {s : Nat} (hs : s < 2 ^ p.length) : Ev (fun k => impl_Poset_dualIdeal.f k (toI p) (s : Int)) ((dualN p s : Nat) : Int) := by
  have hd : sd (full p) s < 2 ^ p.length := sd_lt s (full_lt p)
  refine ev_call (all_eq g.le) ?_
  rw [bits_andNot (g.len63 (full_lt p)) (g.len63 hs)]
  refine Ev.bind (items_ev (g.len63 hd)) ?_
  have h := dual_l0 g _ hd (items (sd (full p) s)).length 0 0 (by omega) (Nat.two_pow_pos _)
  rw [List.drop_zero, foldl_items_n _ _ hd g.le] at h
  have e : foldBits p.length (sd (full p) s) (fun o e => o ||| 2 ^ (p.length - 1 - e)) 0 = dualN p s := by
    unfold foldBits dualN
    rw [List.range_eq_range']
    apply foldl_congr
    intro a x hx
    have hx' : x < p.length := by simp at hx; omega
    rw [bit_full_sd hx']
    cases s.testBit x <;> simp
  rw [← e]; exact h
theorem rvDual_l0 {p : List Nat} (g : Good p) (s : Nat) : ∀ (d i a : Nat), i + d = p.length → a < 2 ^ p.length →
    Ev (fun k => spec_rvDual.l0 k (s : Int) (p.length : Int) (a : Int) (p.length : Int) (i : Int)) (((List.range' i d).foldl (fun o i => if s.testBit i = true then o else o ||| 2 ^ (p.length - 1 - i)) a : Nat) : Int)
  | 0, i, a, h, ha => by
    refine Ev.step (fun _ => spec_rvDual.l0.eq_2 ..) (ev_neg (by omega) ?_)
    exact Ev.now _
  | d + 1, i, a, h, ha => by
    have gl := g.le
    refine Ev.step (fun _ => spec_rvDual.l0.eq_2 ..) (ev_pos (by omega) (ev_call (poIn_eq (by omega)) ?_))
    rw [wrap_succ (by omega), wrap_id (x := (p.length : Int) - 1) (by omega) (by omega), wrap_id (by omega) (by omega), show ((p.length : Int) - 1 - (i : Int)) = ((p.length - 1 - i : Nat) : Int) by omega, shl_one (by omega), List.range'_succ, List.foldl_cons,
      bits_or (g.len63 ha) (M.lt63 (pow_lt_pow' (show p.length - 1 - i < 11 by omega)) (by omega))]
    refine ev_ite (fun e => ?_) (fun e => ?_)
    · rw [if_pos e]; exact rvDual_l0 g s d (i + 1) a (by omega) ha
    · rw [if_neg e]
      exact ev_pos (by omega) (rvDual_l0 g s d (i + 1) _ (by omega) (Nat.or_lt_two_pow ha (pow_lt_pow' (by omega))))
theorem rvDual_ev {p : List Nat} (g : Good p) (s : Nat) : Ev (fun k => spec_rvDual.f k (toI p) (s : Int)) ((dualN p s : Nat) : Int) := by
  have h := rvDual_l0 g s p.length 0 0 (by omega) (Nat.two_pow_pos _)
  unfold spec_rvDual.f dualN
  rw [toI_len]; exact h
end Go.Proofs.Ytioibkdjcmkcpaa.M
end
section
namespace Go.Proofs.Ytioibkdjcmkcpaa.M
open Go.RowKit Go.Proofs.YtioibkdjcmkcpaaW.PrintWords Go.Proofs.YtioibkdjcmkcpaaW.PrintLast Go.Proofs.YtioibkdjcmkcpaaW.PrintMore Go.Proofs.Ytioibkdjcmkcpaa.L
set_option linter.unusedVariables false
theorem agree_FnExactRowOnDual (l : List Int) (s : Int) (hl : l.length ≤ 1048576) : ∃ r : Int × Bool, Ev (fun k => spec_RowOnDual.f k l s) r ∧ Ev (fun k => impl_RowOnDual.f k l s) r := by
  by_cases h : idB l s = true
  · obtain ⟨p, t, rfl, rfl, g, ht⟩ := idB_of h
    refine ⟨(((dualN p (back p t) : Nat) : Int), true), ?_, ?_⟩
    · exact Ev.bind (tgIn_ev _ _) (ev_pos h (Ev.bind (tgBack_ev g ht.1) (Ev.bind (rvDual_ev g _) (Ev.now _))))
    · exact Ev.bind (isIdeal_ev _ _) (ev_pos h (Ev.bind (implBack_ev g ht) (Ev.bind (dualIdeal_ev g (back_lt t)) (Ev.now _))))
  · exact ⟨(0, false), Ev.bind (tgIn_ev _ _) (ev_neg h (Ev.now _)), Ev.bind (isIdeal_ev _ _) (ev_neg h (Ev.now _))⟩
end Go.Proofs.Ytioibkdjcmkcpaa.M
end
section
namespace Go.Proofs.Ytioibkdjcmkcpaa.L
open Go.RowKit Go.Proofs.YtioibkdjcmkcpaaW.PrintWords Go.Proofs.YtioibkdjcmkcpaaW.PrintLast Go.Proofs.YtioibkdjcmkcpaaW.PrintMore
attribute [local go_sem] max2_int min2_int max_two min_two max_three min_three max_four min_four
set_option linter.unusedVariables false
set_option linter.unusedSimpArgs false
def laws_markPoset.f (k : Nat) (l0_0 : List Int) (a1 : Int) : Option (Int × List Int) := (laws_markIntS.f k l0_0 a1).bind fun bt315 => (some (bt315.1, bt315.2))
theorem laws_markPoset.mono : ∀ a0 a1 k, LeO (laws_markPoset.f k a0 a1) (laws_markPoset.f (k + 1) a0 a1) := by
  intro a0 a1 k
  unfold laws_markPoset.f
  repeat' first
      | (with_reducible exact laws_markIntS.mono _ _ _)
      | (with_reducible exact LeO.refl _)
      | (with_reducible exact LeO.none _)
      | (with_reducible refine LeO.ite ?_ ?_)
      | (with_reducible refine LeO.bind ?_ (fun _ => ?_))
      | exact laws_markIntS.mono _ _ _
      | exact LeO.none _
      | refine LeO.ite ?_ ?_
      | refine LeO.bind ?_ (fun _ => ?_)
set_option maxHeartbeats 8000000 in
set_option maxRecDepth 100000 in
theorem laws_markPoset.calls (k : Nat) (P0_0_ : Nat → Prop) (u9000_ : Value) (l0_0 : List Int) (a1 : Int) (r1 : Int) (r2 : List Int) (w0 w : World) (hB : Below w0.heap.size w0 w) (ho0_0 : Kd.R (Kd.int .i64) 3 w w0.heap.size P0_0_ u9000_ l0_0) (h : laws_markPoset.f k l0_0 a1 = some (r1, r2)) :
    Calls Try.prog 30 #[.agg #[u9000_], .int .i64 a1] w fun e w' => e = .returned (.int .i64 r1) ∧ Kd.R (Kd.int .i64) 3 w' w0.heap.size (fun k_ => (P0_0_ k_ ∨ w.heap.size ≤ k_)) u9000_ r2 ∧ Below w0.heap.size w0 w' ∧ Kept w w' (fun k_ => P0_0_ k_) := by
  have hu28 := Try.underlying28
  have HO0_0 := Aside0.mk (show Kd.R (Kd.int .i64) 3 w w0.heap.size (fun k_ => (P0_0_ k_ ∨ w.heap.size ≤ k_)) u9000_ l0_0 from Kd.R_mono ho0_0 (fun k_ hk => (.inl hk)))
  have HK := Aside0.mk (Kept.refl w (fun k_ => P0_0_ k_))
  have HW0 := Aside0.mk hB.size
  have HB := Aside0.mk hB
  clear hB
  have H : ((laws_markIntS.f k l0_0 a1).bind fun bt315 => (some (bt315.1, bt315.2))) = some (r1, r2) := h
  clear h
  replace H := Option.bind_eq_some_iff.mp H
  obtain ⟨⟨t315, t316⟩, A30, H⟩ := H
  replace H : (some (t315, t316)) = some (r1, r2) := H
  have A3 := Aside0.mk A30
  clear A30
  simp only [Option.some.injEq, Prod.mk.injEq] at H
  obtain ⟨rfl, rfl⟩ := H
  obtain ⟨Ao4, co4, eo4⟩ := Kd.R_slice HO0_0.out
  subst eo4
  go_enter Try.func30, Try.ntmps30
  go_wp2_with (first | ((with_reducible refine gate_dst (N := 2) rfl ?_); refine box_event ?hg (N := 2) ?hd (cs := #[.slice Ao4 l0_0.length co4]) (t := 28) ?hr ?_; (case hd => rfl); (case hg => rfl); (case hr => first | (go_simp; done) | (go_simp; rfl)); intro gb314 hg w5 hbox hb; have n0_ := Aside0.mk (Kd.R_below (by (with_reducible repeat (first | apply Kd.R_alloc | apply Kd.R_drewN | apply Kd.R_drew)); exact HO0_0.out) hb); have n1_ := Aside0.mk (Kept.below (S := (fun k_ => P0_0_ k_)) (by repeat (first | (with_reducible first | exact HK.out | apply Kept.alloc | apply Kept.drewN | apply Kept.drew) | exact HK.out)) hb); have n2_ := Aside0.mk (below_step (by repeat (first | (with_reducible first | exact HB.out | apply below_alloc | apply pw_below_drewN | apply below_drew1) | exact HB.out)) hb); have n3_ := Aside0.mk (hbox); have n4_ := Aside0.mk ((by rw [hg]; exact (by first | exact HK.out.1 | exact (show Kept w _ (fun k_ => P0_0_ k_) from by repeat (first | (with_reducible first | exact HK.out | apply Kept.alloc | apply Kept.drewN | apply Kept.drew) | exact HK.out)).1) : w.heap.size ≤ gb314)); have n5_ := Aside0.mk ((by rw [hg]; exact (below_size (by repeat (first | (with_reducible first | exact HB.out | apply below_alloc | apply pw_below_drewN | apply below_drew1) | exact HB.out))) : w0.heap.size ≤ gb314)); clear HO0_0; clear HK; clear HB; have HO0_0 := n0_; have HK := n1_; have HB := n2_; have BK314 := n3_; have GW314 := n4_; have GE314 := n5_; clear n0_ n1_ n2_ n3_ n4_ n5_; clear hb hbox hg; have hcz6_0 : w5.cell? ⟨gb314, 0, none⟩ = some (.slice Ao4 l0_0.length co4) := (blk_cell BK314.out 0).trans rfl; have hfz6_0 := blk_frozen BK314.out 0) | ((with_reducible refine gate_callee (f := 26) rfl ?_); refine goesL_ (some 8) rfl rfl Try.func26 (by kernel_rfl) rfl #[.slice Ao4 l0_0.length co4, .int .i64 a1] rfl (by (try simp only [List.map_toArray, List.map_cons, List.map_nil]); first | done | rfl | (simp only [List.length_drop, List.length_take]; rfl)) ?_; (with_reducible refine (laws_markIntS.calls k (fun k_ => some k_ = (.slice Ao4 l0_0.length co4 : Value).ownBlock) (.slice Ao4 l0_0.length co4) l0_0 a1 t315 t316 w0 _ ?side1 ?side2 A3.out).mono ?_); (case side1 => repeat (first | (with_reducible first | exact HB.out | apply below_alloc | apply pw_below_drewN | apply below_drew1 | refine below_set ?_ GE314.out) | exact HB.out)); (case side2 => exact Kd.R_tight rfl HO0_0.out); rintro e w7 ⟨rfl, hy0, hb, hkp⟩; refine ⟨_, rfl, ?_⟩; have n0_ := Aside0.mk (Kd.R_reok rfl hy0 (fun k_ e_ => HO0_0.out.1 k_ e_)); have n1_ := Aside0.mk (blk_kept (by (with_reducible repeat (first | refine blk_drewN ?_ _ | refine blk_drew ?_ | refine blk_alloc ?_ _)); exact BK314.out) hkp (fun hs_ => (fun e_ => (Kd.R_ne HO0_0.out BK314.out (by decide)) e_) hs_)); have n2_ := Aside0.mk (Kept.then_ (S := (fun k_ => P0_0_ k_)) (by repeat (first | (with_reducible first | exact HK.out | apply Kept.alloc | apply Kept.drewN | apply Kept.drew | refine Kept.setCell ?_ (.inr GW314.out) _) | exact HK.out)) hkp (fun k_ hs_ => (fun e_ => (HO0_0.out.1 k_ e_.symm)) hs_)); have n3_ := Aside0.mk (hb); clear HO0_0; clear BK314; clear HK; clear HB; have HO0_0 := n0_; have BK314 := n1_; have HK := n2_; have HB := n3_; clear n0_ n1_ n2_ n3_; (try clear hb); (try clear hkp); (try clear hy0)))
  go_ret
  exact ⟨by first | rfl | (simp [errW_none, errW_some] <;> rfl) | (simp [*, errW_none, errW_some] <;> rfl), by (with_reducible repeat (first | apply Kd.R_alloc | apply Kd.R_drewN | apply Kd.R_drew)); exact HO0_0.out, by repeat (first | (with_reducible first | exact HB.out | apply below_alloc | apply pw_below_drewN | apply below_drew1 | refine below_set ?_ GE314.out) | exact HB.out), by repeat (first | (with_reducible first | exact HK.out | apply Kept.alloc | apply Kept.drewN | apply Kept.drew | refine Kept.setCell ?_ (.inr GW314.out) _) | exact HK.out)⟩
end Go.Proofs.Ytioibkdjcmkcpaa.L
end
section
namespace Go.Proofs.Ytioibkdjcmkcpaa.M
open Go.RowKit Go.Proofs.YtioibkdjcmkcpaaW.PrintWords Go.Proofs.YtioibkdjcmkcpaaW.PrintLast Go.Proofs.YtioibkdjcmkcpaaW.PrintMore Go.Proofs.Ytioibkdjcmkcpaa.L
theorem szIntS_eq (l : List Int) (h : l.length ≤ maxLen) : laws_szIntS.f l 1048576 = some (if 1048576 < l.length then -1 else 1048576 - (l.length : Int)) := by
  unfold maxLen at h
  unfold laws_szIntS.f
  rw [wrap_id (by omega) (by omega)]
  by_cases h2 : 1048576 < l.length
  · rw [if_pos (by omega), if_pos h2]
  · rw [if_neg (by omega), if_neg h2]
theorem szPoset_eq (l : List Int) (h : l.length ≤ maxLen) : laws_szPoset.f l 1048576 = some (if 1048576 < l.length then -1 else 1048576 - (l.length : Int)) := by
  unfold laws_szPoset.f
  rw [szIntS_eq l h, Option.bind_some]
  split
  · rfl
  · rw [if_neg (by omega)]
theorem toPoset_ev (l : List Int) (hl : l.length ≤ 35184372088832) : Ev (fun k => laws_toPoset.f k l) l := Ev.bind (toIntS_ev l hl) (Ev.now _)
theorem eqPoset_ev (a b : List Int) (hl : a.length ≤ 9223372036854775806) : Ev (fun k => laws_eqPoset.f k a b) (decide (a = b)) := by
  refine Ev.bind (eqIntS_ev a b hl) (ev_ite (fun e => ?_) (fun e => ?_))
  · rw [e]; exact Ev.now _
  · rw [Bool.eq_false_iff.mpr e]; exact Ev.now _
theorem eqPoset_refl (a : List Int) (hl : a.length ≤ 9223372036854775806) : Ev (fun k => laws_eqPoset.f k a a) true := by simpa using eqPoset_ev a a hl
theorem eqIntS_refl (a : List Int) (hl : a.length ≤ 9223372036854775806) : Ev (fun k => laws_eqIntS.f k a a) true := by simpa using eqIntS_ev a a hl
theorem markPoset_ev (l : List Int) (q : Nat) (hl : l.length ≤ 4611686018427387903) (hq : q ≤ 4611686018427387903) : Ev (fun k => laws_markPoset.f k l (q : Int)) (((q + l.length : Nat) : Int), marks q l.length) := Ev.bind (markIntS_ev l q hl hq) (Ev.now _)
end Go.Proofs.Ytioibkdjcmkcpaa.M
end
section
namespace Go.Proofs.Ytioibkdjcmkcpaa.Pure
open Go.RowKit Go.Proofs.YtioibkdjcmkcpaaW.PrintWords Go.Proofs.YtioibkdjcmkcpaaW.PrintLast Go.Proofs.YtioibkdjcmkcpaaW.PrintMore Go.Proofs.Ytioibkdjcmkcpaa.L Go.Proofs.Ytioibkdjcmkcpaa.M
theorem FnExactRowOnDual : laws_FnExactRowOnDual.Pure2 := by
  intro l0 a1 hm0 hw0 w1
  refine Ev.rounds ?_
  refine ev_call (szPoset_eq l0 hm0) ?_
  by_cases b0 : 1048576 < l0.length
  · rw [if_pos b0]; exact ev_pos (by decide) (Ev.now _)
  rw [if_neg b0]
  refine ev_neg (by omega) ?_
  have T0 := toPoset_ev l0 (by omega)
  have E0 := eqPoset_refl l0 (by omega)
  have M0 := markPoset_ev l0 (1) (by omega) (by omega)
  obtain ⟨r, hs, hi⟩ := agree_FnExactRowOnDual l0 a1 (by omega)
  repeat' first
    | with_reducible exact Ev.now true
    | with_reducible refine Ev.bind hs ?_
    | with_reducible refine Ev.bind hi ?_
    | with_reducible refine Ev.bind T0 ?_
    | with_reducible refine Ev.bind E0 ?_
    | with_reducible refine Ev.bind M0 ?_
    | with_reducible refine Ev.step (fun _ => laws_FnExactRowOnDual.j0.eq_2 ..) ?_
    | with_reducible refine ev_pos rfl ?_
    | (with_reducible refine ev_neg ?h ?_; case h => first | (simp; done) | omega | (simp only; omega) | (simp; omega))
end Go.Proofs.Ytioibkdjcmkcpaa.Pure
end
section
namespace Go.Proofs.Ytioibkdjcmkcpaa.R
open Go.ChangeShapes Go.WideShapes Go.ChangeAt Go.RowKit
open Go.ChangeMaps (open_string shut_string)
set_option linter.unusedVariables false
def IsRow (k : IntKind) (w : World) (a : Option Addr) (len cap : Nat) (zs : List Int) : Prop :=
  (a = none ∧ len = 0 ∧ cap = 0 ∧ zs = []) ∨
  ∃ x, a = some x ∧ len ≤ cap ∧ cap ≤ maxLen ∧ zs.length = cap ∧ (∀ i, i < zs.length → w.cell? (x.add i) = some (.int k (zs.getD i 0))) ∧ ∀ n ∈ zs, (Lit.int k n).wf = true
variable {H : Type} {enc : TypeId × Value → H} {P : Program} {W : World} {base : Nat} {ps : List MemPlace}
theorem row_of {t e : TypeId} {k : IntKind} {fuel : Nat} {c : Value} {y : DataW H × List MemPlace} (hu : P.underlying t = some (.slice e)) (he : P.underlying e = some (.int k)) (hc : P.cellsOf e = 1)
    (hf : DataW.trod enc P W 0 (fun _ => true) true fuel t [c] = some y) : ∃ a len cap zs, c = .slice a len cap ∧ IsRow k W a len cap zs := by
  rcases open_ints hu he hc hf with ⟨hcs, _⟩ | ⟨x, l, c', zs, hcs, _, hl, hm, hz, _, hcell, hwz⟩
  · simp only [List.cons.injEq, and_true] at hcs
    subst hcs
    exact ⟨_, _, _, [], rfl, .inl ⟨rfl, rfl, rfl, rfl⟩⟩
  · simp only [List.cons.injEq, and_true] at hcs
    subst hcs
    exact ⟨_, _, _, zs, rfl, .inr ⟨_, rfl, hl, hm, by simpa using hz, hcell, hwz⟩⟩
theorem array1 {α : Type} {cs : Array α} (h : cs.size = 1) : ∃ c0, cs = #[c0] := by
  obtain ⟨l⟩ := cs
  match l, h with
  | [c0], _ => exact ⟨c0, rfl⟩
theorem open_poset {r : Reach} {t e : TypeId} {f : Field} {v : Value} {d : DataW H} (hs : P.underlying t = some (.struct #[f])) (ho : f.offset = 0) (hC : P.cellsOf t = 1) (hfc : P.cellsOf f.type = 1) (hu : P.underlying f.type = some (.slice e)) (he : P.underlying e = some (.int .i64)) (hc : P.cellsOf e = 1)
    (hv : Value.okWide P W r base t v) (h : DataW.Trod enc P W 0 (fun _ => true) true t v d ps) : ∃ a len cap zs, v = .agg #[.slice a len cap] ∧ IsRow .i64 W a len cap zs := by
  obtain ⟨cs, rfl, hsz⟩ := okWide_struct hs hv
  obtain ⟨c0, rfl⟩ := array1 (hsz.trans hC)
  obtain ⟨fuel, hf⟩ := h
  obtain ⟨y0, n, _, _, h0⟩ := trod_struct1 hs hf
  rw [ho, hfc] at h0
  obtain ⟨a, len, cap, zs, rfl, hz⟩ := row_of hu he hc (by simpa [Value.cells] using h0)
  exact ⟨a, len, cap, zs, rfl, hz⟩
theorem open_desk {r : Reach} {t e : TypeId} {f f1 g : Field} {v : Value} {d : DataW H} (hs : P.underlying t = some (.struct #[f, f1])) (ho : f.offset = 0) (ho1 : f1.offset = 1) (hC : P.cellsOf t = 2) (hfc : P.cellsOf f.type = 1) (hfc1 : P.cellsOf f1.type = 1)
    (hs2 : P.underlying f.type = some (.struct #[g])) (hgo : g.offset = 0) (hgc : P.cellsOf g.type = 1) (hu : P.underlying g.type = some (.slice e)) (he : P.underlying e = some (.int .i64)) (hc : P.cellsOf e = 1) (hi : P.underlying f1.type = some (.int .i64))
    (hv : Value.okWide P W r base t v) (h : DataW.Trod enc P W 0 (fun _ => true) true t v d ps) : ∃ a len cap zs x, v = .agg #[.slice a len cap, .int .i64 x] ∧ IsRow .i64 W a len cap zs ∧ (Lit.int .i64 x).wf = true := by
  obtain ⟨cs, rfl, hsz⟩ := okWide_struct hs hv
  obtain ⟨c0, c1, rfl⟩ := Joins.array2 (hsz.trans hC)
  obtain ⟨fuel, hf⟩ := h
  obtain ⟨y0, y1, n, _, _, h0, h1⟩ := trod_struct2 hs hf
  rw [ho, hfc] at h0
  rw [ho1, hfc1] at h1
  obtain ⟨z0, m, _, _, h00⟩ := trod_struct1 hs2 h0
  rw [hgo, hgc] at h00
  obtain ⟨a, len, cap, zs, rfl, hz⟩ := row_of hu he hc (by simpa [Value.cells] using h00)
  obtain ⟨x, e0, e1, wx⟩ := DataW.trod_int hi h1
  simp [Value.cells] at e0
  subst e0
  exact ⟨a, len, cap, zs, x, rfl, hz, wx⟩
end Go.Proofs.Ytioibkdjcmkcpaa.R
end
section
namespace Go.Proofs.Ytioibkdjcmkcpaa.fnExactRowOnDual
open Go.ChangeShapes Go.WideShapes Go.ChangeAt Go.RowKit Go.Proofs.YtioibkdjcmkcpaaW.PrintWords Go.Proofs.Ytioibkdjcmkcpaa.R
open Go.ChangeMaps (open_string shut_string)
set_option linter.unusedVariables false
theorem own : ownKnob Try.prog.godebug = none := by kernel_rfl
theorem laidOut : laidOutB Try.prog = true := by kernel_rfl
set_option maxRecDepth 100000 in
theorem lifted (os : Os) (started : os.Started) (H : Type) (enc : TypeId × Value → H) :
    ReturnsInHanded {} Try.checked os 9 .any (Rows.fnExactRowOnDualSpec.pre6 enc Try.prog Try.f9 Rows.fnExactRowOnDualRow.domain false) (Rows.fnExactRowOnDualSpec.post enc Try.prog Try.f9 false true false false) := by
  refine returnsInHanded_of_change_sized (C := Try.checked) own started (by kernel_rfl) Try.func9
    (ChangeSpec.witness6 (enc := enc) (C := Try.checked) false ⟨#[], #[.agg #[.slice none 0 0], .int .i64 0], []⟩ 8 (by kernel_rfl) (by kernel_rfl) (by kernel_rfl) (by kernel_rfl)) ?_
  intro W base args ds gs before hval0 hW hcnd hsz0 _
  have hval : ∀ (j : Nat) t v, Try.f9.params[j]? = some t → args[j]? = some v → Value.okWide Try.prog W .any base t v := hval0
  have hW' := hW
  obtain ⟨p, q, hA0, hV, rfl, hfz, hnd⟩ := hW
  have hA : DataW.TrodAll enc Try.prog W 0 (fun _ => true) true Try.f9.params.toList args.toList ds p := hA0
  rw [Try.params9] at hA hval
  obtain ⟨v0, vs0, d0, ds0, p0, q0, hargs, rfl, rfl, h0, r0⟩ := trodAll_cons hA
  obtain ⟨v1, vs1, d1, ds1, p1, q1, rfl, rfl, rfl, h1, r1⟩ := trodAll_cons r0
  obtain ⟨rfl, rfl, rfl⟩ := trodAll_nil r1
  obtain rfl : args = #[v0, v1] := by cases args; simp_all
  obtain ⟨rfl, rfl⟩ := trodVars_none hV
  have k0 := h0
  have lt0 : ∀ x ∈ p0, x.block < W.heap.size := by obtain ⟨m, hm⟩ := k0; exact DataW.trod_lt m _ _ _ hm
  obtain ⟨A0, len0, cap0, z0, rfl, w0⟩ := open_poset Try.underlying24 rfl (by kernel_rfl) (by kernel_rfl) Try.underlying22 Try.underlying3 (by kernel_rfl) (hval 0 24 v0 rfl rfl) h0
  have k1 := h1
  have lt1 : ∀ x ∈ p1, x.block < W.heap.size := by obtain ⟨m, hm⟩ := k1; exact DataW.trod_lt m _ _ _ hm
  obtain ⟨a1, rfl, rfl, rfl, w1⟩ := open_int Try.underlying3 (hval 1 3 v1 rfl rfl) h1
  obtain ⟨l0, rfl, hr0, hm0, hw0, hc0⟩ := ReadsInt.ofRowC w0
  clear hA0 hval0 hsz0
  obtain ⟨k, hp⟩ := Pure.FnExactRowOnDual l0 a1 hm0 hw0 w1
  refine (L.laws_FnExactRowOnDual.calls k _ _ l0 a1 true W (Kd.C_of_reads (d := (0 : Int)) (h1 := fun _ => rfl) hr0) hc0 hp).mono fun e W' ⟨he, hd⟩ => ?_
  have bel : Below W.heap.size W W' := hd
  subst he
  exact ⟨_, rfl, _, _, _, [], _, [], hW', trodAll_mk1 (shut_bool Try.underlying4 _), (trodAll_cons_mk (Below.trod laidOut (by kernel_rfl) (of_decide_eq_true (by kernel_rfl)) k0 bel lt0) (trodAll_cons_mk (Below.trod laidOut (by kernel_rfl) (of_decide_eq_true (by kernel_rfl)) k1 bel lt1) trodAll_mk0)), rfl, bel.frame _, fun h => by cases h⟩
theorem over : Rows.fnExactRowOnDualRow.holds Try.pinned (OpenSpec.ofChange Rows.fnExactRowOnDualSpec) :=
  OpenClaim.holds_of_wide 9 Try.f9 rfl rfl rfl rfl rfl rfl rfl ⟨rfl, rfl, rfl, rfl, rfl⟩ rfl rfl rfl rfl rfl (by kernel_rfl) Try.func9 (by kernel_rfl)
    (of_decide_eq_true (by kernel_rfl)) (by unfold Func.isWrapper; first | (rw [if_pos (by decide +kernel)]; kernel_rfl) | (rw [if_neg (by decide +kernel)]; exact ⟨rfl, rfl⟩))
    (fun os started H enc _ => lifted os started H enc)
theorem proved : Rows.FnExactRowOnDualSaid := over
end Go.Proofs.Ytioibkdjcmkcpaa.fnExactRowOnDual
namespace Go.Proofs.Ytioibkdjcmkcpaa
theorem fnExactRowOnDual_holds : Rows.FnExactRowOnDualSaid := fnExactRowOnDual.proved
end Go.Proofs.Ytioibkdjcmkcpaa
end
