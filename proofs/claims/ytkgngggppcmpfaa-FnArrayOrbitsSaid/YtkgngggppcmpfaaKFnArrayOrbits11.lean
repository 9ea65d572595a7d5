/- Laws about the given program: the law FnArrayOrbits answers true for every input that its row lets in; no condition is added to the given statement. Contracts of the Go functions that it reaches, and the plain proof over lists. -/
import Derived.Below
import Derived.ChangeOld
import Derived.OpenShut
import Derived.ProofKit
import Derived.ShutString
import Derived.SizedLaws
import Derived.Test.YtkgngggppcmpfaaRows
import Derived.WalkKit
import Derived.Test.YtkgngggppcmpfaaWFnArrayOrbits0
import Derived.Test.YtkgngggppcmpfaaKFnArrayOrbits0
import Derived.Test.YtkgngggppcmpfaaKFnArrayOrbits1
import Derived.Test.YtkgngggppcmpfaaKFnArrayOrbits2
import Derived.Test.YtkgngggppcmpfaaKFnArrayOrbits3
import Derived.Test.YtkgngggppcmpfaaKFnArrayOrbits4
import Derived.Test.YtkgngggppcmpfaaKFnArrayOrbits5
import Derived.Test.YtkgngggppcmpfaaKFnArrayOrbits6
import Derived.Test.YtkgngggppcmpfaaKFnArrayOrbits7
import Derived.Test.YtkgngggppcmpfaaKFnArrayOrbits8
import Derived.Test.YtkgngggppcmpfaaKFnArrayOrbits9
import Derived.Test.YtkgngggppcmpfaaKFnArrayOrbits10
section
namespace Go.Proofs.Ytkgngggppcmpfaa.M
open Go.RowKit Go.Proofs.YtkgngggppcmpfaaW.PrintWords Go.Proofs.YtkgngggppcmpfaaW.PrintLast Go.Proofs.YtkgngggppcmpfaaW.PrintMore Go.Proofs.Ytkgngggppcmpfaa.L
set_option linter.unusedVariables false
def tg (p : List Nat) (s e : Nat) : Nat := if Qfy p (s ^^^ 2 ^ e) = true then s ^^^ 2 ^ e else s
theorem Qin {p : List Nat} {e : Nat} (h : e < p.length) : 2 ^ e < 2 ^ p.length := Nat.pow_lt_pow_right (by decide) h
theorem tg_id {p : List Nat} {s e : Nat} (hs : IsId p s) (h : e < p.length) : IsId p (tg p s e) := by
 unfold tg; split
 ·
  rename_i h2; exact (Qh1 (Nat.xor_lt_two_pow hs.1 (Qin h))).mp h2
 ·
  exact hs
theorem Qkv (s e i : Nat) : (s ^^^ 2 ^ e).testBit i = (s.testBit i ^^ decide (e = i)) := by rw [Nat.testBit_xor, Nat.testBit_two_pow]
theorem Qf6 {s e i : Nat} (h : e ≠ i) : (s ^^^ 2 ^ e).testBit i = s.testBit i := by rw [Qkv]; simp [h]
theorem Qgm (s e : Nat) : (s ^^^ 2 ^ e).testBit e = !s.testBit e := by rw [Qkv]; simp
def Can (p : List Nat) (s e : Nat) : Prop := (s.testBit e = true → ∀ f, s.testBit f = true → (less p f).testBit e = false) ∧ (s.testBit e = false → ∀ f, (less p e).testBit f = true → s.testBit f = true)
theorem can_iff {p : List Nat} (g : Good p) {s e : Nat} (hs : IsId p s) (he : e < p.length) : Qfy p (s ^^^ 2 ^ e) = true ↔ Can p s e := by
 rw [Qh1 (Nat.xor_lt_two_pow hs.1 (Qin he))]
 constructor
 ·
  rintro ⟨_, h⟩
  refine ⟨fun h1 f hf => ?_, fun h1 f hf => ?_⟩
  ·
   apply Bool.eq_false_iff.mpr
   intro hc
   have b := g.bit hc
   have := h f (by rw [Qf6 (by omega)]; exact hf) e hc
   rw [Qgm, h1] at this; cases this
  ·
   have b := g.bit hf
   have := h e (by rw [Qgm, h1]; rfl) f hf
   rwa [Qf6 (by omega)] at this
 ·
  rintro ⟨h1, h2⟩
  refine ⟨Nat.xor_lt_two_pow hs.1 (Qin he), fun f hf i hi => ?_⟩
  have b := g.bit hi
  by_cases c : e = f
  ·
   subst c
   rw [Qgm, Bool.not_eq_true'] at hf
   rw [Qf6 (by omega)]
   exact h2 hf i hi
  ·
   rw [Qf6 c] at hf
   have hsi := hs.2 f hf i hi
   by_cases c2 : e = i
   ·
    subst c2
    rw [h1 hsi f hf] at hi; cases hi
   ·
    rw [Qf6 c2]; exact hsi
theorem tg_ne {p : List Nat} {s e i : Nat} (h : e ≠ i) : (tg p s e).testBit i = s.testBit i := by
 unfold tg; split
 ·
  exact Qf6 h
 ·
  rfl
theorem tg_eq {p : List Nat} (g : Good p) {s e : Nat} (hs : IsId p s) (he : e < p.length) : (tg p s e).testBit e = true ↔ (s.testBit e = true ∧ ∃ f, s.testBit f = true ∧ (less p f).testBit e = true) ∨ (s.testBit e = false ∧ ∀ f, (less p e).testBit f = true → s.testBit f = true) := by
 have hc := can_iff g hs he
 unfold tg
 cases hb : s.testBit e
 ·
  by_cases c : Qfy p (s ^^^ 2 ^ e) = true
  ·
   rw [if_pos c, Qgm, hb]
   exact ⟨fun _ => .inr ⟨rfl, (hc.mp c).2 hb⟩, fun _ => rfl⟩
  ·
   rw [if_neg c, hb]
   refine ⟨fun h => (by cases h), fun h => ?_⟩
   rcases h with h | h
   ·
    cases h.1
   ·
    exact absurd (hc.mpr ⟨fun h1 => (by rw [hb] at h1; cases h1), fun _ => h.2⟩) c
 ·
  by_cases c : Qfy p (s ^^^ 2 ^ e) = true
  ·
   rw [if_pos c, Qgm, hb]
   refine ⟨fun h => (by cases h), fun h => ?_⟩
   rcases h with ⟨_, f, hf, hl⟩ | h
   ·
    rw [(hc.mp c).1 hb f hf] at hl; cases hl
   ·
    cases h.1
  ·
   rw [if_neg c, hb]
   refine ⟨fun _ => .inl ⟨rfl, ?_⟩, fun _ => rfl⟩
   apply Classical.byContradiction
   intro hn
   refine c (hc.mpr ⟨fun _ f hf => ?_, fun h => by rw [hb] at h; cases h⟩)
   apply Bool.eq_false_iff.mpr
   intro hl
   exact hn ⟨f, hf, hl⟩
def bot (p : List Nat) (u : Nat) : Nat := Qc2 p.length u (fun o e => if less p e &&& u = 0 then o ||| 2 ^ e else o) 0
theorem Qhs {a b : Nat} : a &&& b = 0 ↔ ∀ i, a.testBit i = true → b.testBit i = false := by
 constructor
 ·
  intro h i hi
  have : (a &&& b).testBit i = false := by rw [h, Nat.zero_testBit]
  rw [Nat.testBit_and, hi, Bool.true_and] at this; exact this
 ·
  intro h
  apply Nat.eq_of_testBit_eq
  intro i
  rw [Nat.testBit_and, Nat.zero_testBit]
  cases ha : a.testBit i
  ·
   rfl
  ·
   rw [h i ha]; rfl
theorem Qft (c : Nat → Prop) [DecidablePred c] (u a i : Nat) : ∀ n, (Qc2 n u (fun o e => if c e then o ||| 2 ^ e else o) a).testBit i = true ↔ (a.testBit i = true ∨ (i < n ∧ u.testBit i = true ∧ c i))
 | 0 => by simp [Qc2]
 | n + 1 => by
  rw [Qd4]
  have ih := Qft c u a i n
  by_cases hu : u.testBit n = true
  ·
   rw [if_pos hu]
   by_cases hc : c n
   ·
    rw [if_pos hc, Nat.testBit_or, Bool.or_eq_true, ih, Nat.testBit_two_pow, decide_eq_true_eq]
    constructor
    ·
     rintro ((h | ⟨h1, h2⟩) | h)
     ·
      exact .inl h
     ·
      exact .inr ⟨by omega, h2⟩
     ·
      subst h; exact .inr ⟨by omega, hu, hc⟩
    ·
     rintro (h | ⟨h1, h2⟩)
     ·
      exact .inl (.inl h)
     ·
      by_cases e : n = i
      ·
       exact .inr e
      ·
       exact .inl (.inr ⟨by omega, h2⟩)
   ·
    rw [if_neg hc, ih]
    refine or_congr_right ⟨fun h => ⟨by omega, h.2⟩, fun h => ⟨?_, h.2⟩⟩
    have : i ≠ n := fun e => by subst e; exact hc h.2.2
    omega
  ·
   rw [if_neg hu, ih]
   refine or_congr_right ⟨fun h => ⟨by omega, h.2⟩, fun h => ⟨?_, h.2⟩⟩
   have : i ≠ n := fun e => by subst e; exact hu h.2.1
   omega
theorem bot_bit {p : List Nat} {u : Nat} (hu : u < 2 ^ p.length) (i : Nat) : (bot p u).testBit i = true ↔ u.testBit i = true ∧ ∀ j, (less p i).testBit j = true → u.testBit j = false := by
 unfold bot
 rw [Qft (fun e => less p e &&& u = 0), Nat.zero_testBit]
 constructor
 ·
  rintro (h | ⟨h1, h2, h3⟩)
  ·
   cases h
  ·
   exact ⟨h2, Qhs.mp h3⟩
 ·
  rintro ⟨h1, h2⟩
  exact .inr ⟨Qe3 hu h1, h1, Qhs.mpr h2⟩
theorem put_lt {n : Nat} (c : Nat → Prop) [DecidablePred c] (u : Nat) : Qc2 n u (fun o e => if c e then o ||| 2 ^ e else o) 0 < 2 ^ n :=
 Qgq _ _ _ _ (· < 2 ^ n) (Nat.two_pow_pos _) (fun a e ha he _ => by
  split
  ·
   exact Nat.or_lt_two_pow ha (Nat.pow_lt_pow_right (by decide) he)
  ·
   exact ha)
theorem bot_lt {p : List Nat} (u : Nat) : bot p u < 2 ^ p.length := put_lt _ u
def row (p : List Nat) (s : Nat) : Nat := close p (bot p (sd (full p) s))
theorem co_lt {p : List Nat} (s : Nat) : sd (full p) s < 2 ^ p.length := sd_lt s (full_lt p)
theorem Qj7 {p : List Nat} {s i : Nat} : (sd (full p) s).testBit i = true ↔ i < p.length ∧ s.testBit i = false := by
 rw [Qf3, full_bit, Bool.and_eq_true, decide_eq_true_eq, Bool.not_eq_true']
theorem row_lt {p : List Nat} (g : Good p) (s : Nat) : row p s < 2 ^ p.length := close_lt g (bot_lt _)
theorem Qf5 {p : List Nat} (g : Good p) {s : Nat} (hs : IsId p s) (i : Nat) : (row p s).testBit i = true ↔ ∃ e, e < p.length ∧ s.testBit e = false ∧ (∀ j, (less p e).testBit j = true → s.testBit j = true) ∧ (e = i ∨ (less p e).testBit i = true) := by
 unfold row
 rw [Ql4 (bot_lt _)]
 have hb : ∀ e, (bot p (sd (full p) s)).testBit e = true ↔ e < p.length ∧ s.testBit e = false ∧ (∀ j, (less p e).testBit j = true → s.testBit j = true) := by
  intro e
  rw [bot_bit (co_lt s), Qj7, and_assoc]
  refine and_congr_right fun h1 => and_congr_right fun h2 => forall_congr' fun j => forall_congr' fun hj => ?_
  have b := g.bit hj
  rw [← Bool.not_eq_true, Qj7, not_and, Bool.not_eq_false]
  exact ⟨fun h => h (by omega), fun h _ => h⟩
 constructor
 ·
  rintro (h | ⟨e, h, hl⟩)
  ·
   have := (hb i).mp h
   exact ⟨i, this.1, this.2.1, this.2.2, .inl rfl⟩
  ·
   have := (hb e).mp h
   exact ⟨e, this.1, this.2.1, this.2.2, .inr hl⟩
 ·
  rintro ⟨e, h1, h2, h3, h4⟩
  rcases h4 with h4 | h4
  ·
   subst h4; exact .inl ((hb e).mpr ⟨h1, h2, h3⟩)
  ·
   exact .inr ⟨e, (hb e).mpr ⟨h1, h2, h3⟩, h4⟩
theorem row_id {p : List Nat} (g : Good p) {s : Nat} (hs : IsId p s) : IsId p (row p s) := by
 refine ⟨row_lt g s, fun e he i hi => ?_⟩
 rw [Qf5 g hs] at he ⊢
 obtain ⟨f, h1, h2, h3, h4⟩ := he
 refine ⟨f, h1, h2, h3, .inr ?_⟩
 rcases h4 with h4 | h4
 ·
  rw [h4]; exact hi
 ·
  exact g.tr' h4 hi
structure Mid (p : List Nat) (s t : Nat) (P : Nat → Prop) (x : Nat) : Prop where
 id : IsId p x
 on : ∀ i, i < p.length → P i → x.testBit i = t.testBit i
 off : ∀ i, i < p.length → ¬ P i → x.testBit i = s.testBit i
theorem Mid.step {p : List Nat} {s t x i : Nat} {P Q : Nat → Prop} (I : Mid p s t P x) (hi : i < p.length) (hQ : ∀ k, k < p.length → (Q k ↔ P k ∨ k = i)) (h : (tg p x i).testBit i = t.testBit i) : Mid p s t Q (tg p x i) := by
 refine ⟨tg_id I.id hi, fun k hk hq => ?_, fun k hk hq => ?_⟩
 ·
  by_cases c : i = k
  ·
   subst c; exact h
  ·
   rw [tg_ne c]
   rcases (hQ k hk).mp hq with h | h
   ·
    exact I.on k hk h
   ·
    exact absurd h.symm c
 ·
  rw [tg_ne (fun c => hq ((hQ k hk).mpr (.inr c.symm)))]
  exact I.off k hk fun h => hq ((hQ k hk).mpr (.inl h))
theorem Mid.all {p : List Nat} {s t x : Nat} {P : Nat → Prop} (I : Mid p s t P x) (ht : t < 2 ^ p.length) (h : ∀ i, i < p.length → P i) : x = t := by
 apply Nat.eq_of_testBit_eq
 intro i
 by_cases hi : i < p.length
 ·
  exact I.on i hi (h i hi)
 ·
  have big : ∀ y, y < 2 ^ p.length → y.testBit i = false := fun y hy => Nat.testBit_lt_two_pow (Nat.lt_of_lt_of_le hy (Nat.pow_le_pow_right (by decide) (by omega)))
  rw [big x I.id.1, big t ht]
theorem Mid.none {p : List Nat} {s : Nat} (t : Nat) (hs : IsId p s) {P : Nat → Prop} (h : ∀ i, i < p.length → ¬ P i) : Mid p s t P s :=
 ⟨hs, fun i hi hp => absurd hp (h i hi), fun _ _ _ => rfl⟩
theorem Mid.row {p : List Nat} (g : Good p) {s x i : Nat} {P Q : Nat → Prop} (hs : IsId p s) (I : Mid p s (row p s) P x) (hi : i < p.length) (hP : ¬ P i) (up : ∀ k, (less p k).testBit i = true → P k)
  (dn : ∀ j, (less p i).testBit j = true → ¬ P j) (hQ : ∀ k, k < p.length → (Q k ↔ P k ∨ k = i)) : Mid p s (M.row p s) Q (tg p x i) := by
 refine I.step hi hQ ?_
 have xi := I.off i hi hP
 rw [Bool.eq_iff_iff, tg_eq g I.id hi, xi]
 cases hb : s.testBit i
 ·
  constructor
  ·
   rintro (h | ⟨_, h⟩)
   ·
    cases h.1
   ·
    rw [Qf5 g hs]
    refine ⟨i, hi, hb, fun j hj => ?_, .inl rfl⟩
    have b := g.bit hj
    rw [← I.off j (by omega) (dn j hj)]; exact h j hj
  ·
   intro h
   rw [Qf5 g hs] at h
   obtain ⟨e, h1, h2, h3, h4⟩ := h
   refine .inr ⟨rfl, fun f hf => ?_⟩
   have b := g.bit hf
   rw [I.off f (by omega) (dn f hf)]
   rcases h4 with h4 | h4
   ·
    rw [h4] at h3; exact h3 f hf
   ·
    have := h3 i h4
    rw [hb] at this; cases this
 ·
  constructor
  ·
   rintro (⟨_, f, hf, hl⟩ | h)
   ·
    have b := g.bit hl
    have := I.on f b.2 (up f hl)
    rw [hf] at this
    exact (row_id g hs).2 f this.symm i hl
   ·
    cases h.1
  ·
   intro h
   rw [Qf5 g hs] at h
   obtain ⟨e, h1, h2, h3, h4⟩ := h
   rcases h4 with h4 | h4
   ·
    subst h4; rw [hb] at h2; cases h2
   ·
    refine .inl ⟨rfl, e, ?_, h4⟩
    rw [I.on e h1 (up e h4), Qf5 g hs]
    exact ⟨e, h1, h2, h3, .inl rfl⟩
def top (p : List Nat) (s : Nat) : Nat := Qc2 p.length s (fun o e => sd o (less p e)) s
theorem Qhe (p : List Nat) (s a i : Nat) : ∀ n, (Qc2 n s (fun o e => sd o (less p e)) a).testBit i = true ↔ (a.testBit i = true ∧ ∀ e, e < n → s.testBit e = true → (less p e).testBit i = false)
 | 0 => by simp [Qc2]
 | n + 1 => by
  rw [Qd4]
  have ih := Qhe p s a i n
  split
  ·
   rename_i hs
   rw [Qf3, Bool.and_eq_true, ih, Bool.not_eq_true']
   constructor
   ·
    rintro ⟨⟨h1, h2⟩, h3⟩
    refine ⟨h1, fun e he hb => ?_⟩
    by_cases c : e = n
    ·
     subst c; exact h3
    ·
     exact h2 e (by omega) hb
   ·
    rintro ⟨h1, h2⟩
    exact ⟨⟨h1, fun e he hb => h2 e (by omega) hb⟩, h2 n (by omega) hs⟩
  ·
   rename_i hs
   rw [ih]
   constructor
   ·
    rintro ⟨h1, h2⟩
    refine ⟨h1, fun e he hb => ?_⟩
    by_cases c : e = n
    ·
     subst c; exact absurd hb hs
    ·
     exact h2 e (by omega) hb
   ·
    rintro ⟨h1, h2⟩
    exact ⟨h1, fun e he hb => h2 e (by omega) hb⟩
theorem Qg3 {p : List Nat} {s : Nat} (hs : s < 2 ^ p.length) (i : Nat) : (top p s).testBit i = true ↔ s.testBit i = true ∧ ∀ e, s.testBit e = true → (less p e).testBit i = false := by
 unfold top
 rw [Qhe]
 exact and_congr_right fun _ => ⟨fun h e he => h e (Qe3 hs he) he, fun h e _ he => h e he⟩
def back (p : List Nat) (s : Nat) : Nat := Qc2 p.length (sd (full p) (top p s)) (fun o e => if less p e &&& top p s = 0 then o ||| 2 ^ e else o) 0
theorem Qhv {p : List Nat} (s : Nat) (i : Nat) : (back p s).testBit i = true ↔ i < p.length ∧ (top p s).testBit i = false ∧ ∀ j, (less p i).testBit j = true → (top p s).testBit j = false := by
 unfold back
 rw [Qft (fun e => less p e &&& top p s = 0), Nat.zero_testBit, Qj7, Qhs]
 constructor
 ·
  rintro (h | ⟨_, ⟨h1, h2⟩, h3⟩)
  ·
   cases h
  ·
   exact ⟨h1, h2, h3⟩
 ·
  rintro ⟨h1, h2, h3⟩
  exact .inr ⟨h1, ⟨h1, h2⟩, h3⟩
theorem Mid.back {p : List Nat} (g : Good p) {s x i : Nat} {P Q : Nat → Prop} (hs : IsId p s) (I : Mid p s (back p s) P x) (hi : i < p.length) (hP : ¬ P i) (up : ∀ k, (less p k).testBit i = true → ¬ P k)
  (dn : ∀ j, (less p i).testBit j = true → P j) (hQ : ∀ k, k < p.length → (Q k ↔ P k ∨ k = i)) : Mid p s (M.back p s) Q (tg p x i) := by
 refine I.step hi hQ ?_
 have xi := I.off i hi hP
 rw [Bool.eq_iff_iff, tg_eq g I.id hi, xi, Qhv]
 cases hb : s.testBit i
 ·
  have ht : (top p s).testBit i = false := by
   apply Bool.eq_false_iff.mpr; intro h; rw [Qg3 hs.1, hb] at h; cases h.1
  constructor
  ·
   rintro (h | ⟨_, h⟩)
   ·
    cases h.1
   ·
    refine ⟨hi, ht, fun j hj => ?_⟩
    have b := g.bit hj
    have := h j hj
    rw [I.on j (by omega) (dn j hj), Qhv] at this
    exact this.2.1
  ·
   rintro ⟨_, _, h⟩
   refine .inr ⟨rfl, fun f hf => ?_⟩
   have b := g.bit hf
   rw [I.on f (by omega) (dn f hf), Qhv]
   exact ⟨by omega, h f hf, fun j hj => h j (g.tr' hf hj)⟩
 ·
  constructor
  ·
   rintro (⟨_, f, hf, hl⟩ | h)
   ·
    have b := g.bit hl
    rw [I.off f b.2 (up f hl)] at hf
    refine ⟨hi, ?_, fun j hj => ?_⟩
    ·
     apply Bool.eq_false_iff.mpr; intro h; rw [Qg3 hs.1] at h
     rw [h.2 f hf] at hl; cases hl
    ·
     apply Bool.eq_false_iff.mpr; intro h; rw [Qg3 hs.1] at h
     rw [h.2 i hb] at hj; cases hj
   ·
    cases h.1
  ·
   rintro ⟨_, h1, h2⟩
   refine .inl ⟨rfl, ?_⟩
   apply Classical.byContradiction
   intro hn
   apply Bool.eq_false_iff.mp h1
   rw [Qg3 hs.1]
   refine ⟨hb, fun e he => ?_⟩
   apply Bool.eq_false_iff.mpr
   intro hl
   have b := g.bit hl
   exact hn ⟨e, by rw [I.off e b.2 (up e hl)]; exact he, hl⟩
end Go.Proofs.Ytkgngggppcmpfaa.M
end
section
namespace Go.Proofs.Ytkgngggppcmpfaa.L
open Go.RowKit Go.Proofs.YtkgngggppcmpfaaW.PrintWords Go.Proofs.YtkgngggppcmpfaaW.PrintLast Go.Proofs.YtkgngggppcmpfaaW.PrintMore
attribute [local go_sem] Qbj Qbi Qbu Qbt Qbd Qbc Qbk Qbl
set_option linter.unusedVariables false
set_option linter.unusedSimpArgs false
end Go.Proofs.Ytkgngggppcmpfaa.L
end
section
namespace Go.Proofs.Ytkgngggppcmpfaa.M
open Go.RowKit Go.Proofs.YtkgngggppcmpfaaW.PrintWords Go.Proofs.YtkgngggppcmpfaaW.PrintLast Go.Proofs.YtkgngggppcmpfaaW.PrintMore Go.Proofs.Ytkgngggppcmpfaa.L
set_option linter.unusedVariables false
def Qdb (b : Nat) (y : List Nat) : List Nat := y.reverse.map (b - ·)
theorem Qgk {p y : List Nat} {b : Nat} (a : Arr p y b) (hb : b ≤ 20) (hl : y.length ≤ 10) : ∀ (i : Nat) (acc : List Nat), i ≤ y.length → acc.length + i ≤ 100 →
  Ev (fun k => Qbp.l0 k (toI y) (b : Int) (toI acc) ((i : Int) - 1)) (toI (acc ++ (y.take i).reverse.map (b - ·)), true)
 | 0, acc, h, ha => by
  refine Ev.step (fun _ => Qbp.l0.eq_2 ..) (Qbw (by omega) ?_)
  simpa using Ev.now (toI acc, true)
 | i + 1, acc, h, ha => by
  have hi := a.hi i
  refine Ev.step (fun _ => Qbp.l0.eq_2 ..) (Qw (by omega) (Qw (by omega) (Qw (by rw [toI_len]; omega) (Qw (by rw [toI_len]; omega) ?_))))
  rw [show ((i + 1 : Nat) : Int) - 1 = (i : Int) by omega, Qd1, Qc1 (by omega) (by omega), Qc1 (x := (i : Int) - 1) (by omega) (by omega), show (b : Int) - ((y.getD i 0 : Nat) : Int) = ((b - y.getD i 0 : Nat) : Int) by omega, ← Qg5, ← Qg6]
  have ih := Qgk a hb hl i (acc ++ [b - y.getD i 0]) (by omega) (by simp; omega)
  rw [List.take_succ_eq_append_getElem (by omega), List.reverse_append, List.reverse_singleton, List.singleton_append, List.map_cons]
  have e : y.getD i 0 = y[i] := by simp [List.getD_eq_getElem?_getD, show i < y.length by omega]
  rw [List.append_assoc, e] at ih; rw [e]; exact ih
theorem Qgz {b : Nat} (hb : b ≤ 20) (w : List Nat) (hw : ∀ i, w.getD i 0 ≤ b) (hl : w.length ≤ 10) : ∀ (d q : Nat) (acc : List Nat), q + d = w.length → acc.length + d ≤ 100 →
  Ev (fun k => Qcg.l0 k (b : Int) (toI acc) (toI w) ((toI w).length : Int) (q : Int)) (toI (acc ++ (w.drop q).map (b - ·)))
 | 0, q, acc, h, ha => by
  refine Ev.step (fun _ => Qcg.l0.eq_2 ..) (Qbw (by rw [toI_len]; omega) ?_)
  rw [List.drop_of_length_le (by omega), List.map_nil, List.append_nil]; exact Ev.now _
 | d + 1, q, acc, h, ha => by
  have hq : q < w.length := by omega
  have hi := hw q
  refine Ev.step (fun _ => Qcg.l0.eq_2 ..) (Qw (by rw [toI_len]; omega) (Qw (by omega) (Qw (by rw [toI_len]; omega) (Qw (by rw [toI_len]; omega) ?_))))
  rw [Qd1, Qc1 (by omega) (by omega), Qck (by omega), show (b : Int) - ((w.getD q 0 : Nat) : Int) = ((b - w.getD q 0 : Nat) : Int) by omega, ← Qg5, ← Qg6]
  have ih := Qgz hb w hw hl d (q + 1) (acc ++ [b - w.getD q 0]) (by omega) (by simp; omega)
  have e : w.getD q 0 = w[q] := by simp [List.getD_eq_getElem?_getD, hq]
  rw [List.drop_eq_getElem_cons hq, List.map_cons]
  rw [List.append_assoc, e] at ih; rw [e]; exact ih
theorem Qfd (l x : List Int) (b : Int) (hl : l.length ≤ 1048576) (hx : x.length ≤ 1048576) : ∃ r : List Int × Bool, r.1.length ≤ 1000 ∧ Ev (fun k => Qbp.f k l x b) r ∧ Ev (fun k => Qby.f k l x b) r := by
 by_cases h : Qdv l x b = true
 ·
  obtain ⟨p, y, c, rfl, rfl, rfl, g, hc, a⟩ := Qe5 h
  have hy : y.length ≤ 10 := by have := g.le; rw [a.len]; omega
  refine ⟨(toI (Qdb c y), true), by simp [Qdb]; omega, ?_, ?_⟩
  ·
   refine Ev.bind (Qee _ _ _) (Qw h ?_)
   rw [toI_len, Qc1 (by omega) (by omega)]
   have := Qgk a hc hy y.length [] (Nat.le_refl _) (by simp; omega)
   rw [List.take_length, List.nil_append] at this
   exact this
  ·
   have hb : Ev (fun k => Qb6.f k (toI y)) (toI y.reverse) := by
    refine Qbo (Qd0 _ (by rw [toI_len]; omega)) (Ev.bind (Qep _ (by rw [toI_len]; omega)) ?_)
    rw [Qfx]; exact Ev.now _
   have ht := Qgz hc y.reverse (fun i => by
    by_cases hi : i < y.reverse.length
    ·
     rw [List.getD_eq_getElem?_getD, List.getElem?_eq_getElem hi, Option.getD_some, List.getElem_reverse]
     have := a.hi (y.length - 1 - i)
     have hi2 : y.length - 1 - i < y.length := by simp at hi; omega
     rw [List.getD_eq_getElem?_getD, List.getElem?_eq_getElem hi2, Option.getD_some] at this
     exact this
    ·
     rw [List.getD_eq_getElem?_getD, List.getElem?_eq_none (by omega)]; exact Nat.zero_le _) (by simpa using hy) _ 0 [] (Nat.zero_add _) (by simp; omega)
   rw [List.drop_zero, List.nil_append] at ht
   exact Ev.bind (Qdh _ _ _) (Qw h (Ev.bind (Ev.bind hb ht) (Ev.now _)))
 ·
  exact ⟨([], false), Nat.zero_le _, Ev.bind (Qee _ _ _) (Qbw h (Ev.now _)), Ev.bind (Qdh _ _ _) (Qbw h (Ev.now _))⟩
theorem Qfq (c : Nat → Bool) (i : Nat) : ∀ n, ((List.range n).foldl (fun o j => if c j = true then o ||| 2 ^ j else o) 0).testBit i = (decide (i < n) && c i)
 | 0 => by simp
 | n + 1 => by
  rw [List.range_succ, List.foldl_append, List.foldl_cons, List.foldl_nil]
  by_cases h : c n = true
  ·
   rw [if_pos h, Nat.testBit_or, Qfq c i n, Nat.testBit_two_pow]
   by_cases e : n = i
   ·
    subst e; simp [h]
   ·
    rw [decide_eq_false e, Bool.or_false, decide_eq_decide.mpr (show i < n ↔ i < n + 1 by omega)]
  ·
   rw [if_neg h, Qfq c i n]
   by_cases e : n = i
   ·
    subst e; simp [Bool.eq_false_iff.mpr h]
   ·
    rw [decide_eq_decide.mpr (show i < n ↔ i < n + 1 by omega)]
def Qe4 (p : List Nat) (i : Nat) : Nat := (List.range i).foldl (fun o j => if (less p (p.length - 1 - j)).testBit (p.length - 1 - i) = true then o ||| 2 ^ j else o) 0
def Qdx (p : List Nat) : List Nat := (List.range p.length).map (Qe4 p)
theorem Qeg (p : List Nat) : (Qdx p).length = p.length := by simp [Qdx]
theorem Qlh (p : List Nat) {i : Nat} (h : i < p.length) : less (Qdx p) i = Qe4 p i := by
 unfold less Qdx; rw [List.getD_eq_getElem?_getD]; simp [h]
theorem Qd2 {p : List Nat} (g : Good p) (i j : Nat) : (less (Qdx p) i).testBit j = true ↔ i < p.length ∧ j < p.length ∧ (less p (p.length - 1 - j)).testBit (p.length - 1 - i) = true := by
 by_cases h : i < p.length
 ·
  rw [Qlh p h]
  unfold Qe4
  rw [Qfq (fun j => (less p (p.length - 1 - j)).testBit (p.length - 1 - i)), Bool.and_eq_true, decide_eq_true_eq]
  refine ⟨fun e => ⟨h, by omega, e.2⟩, fun e => ⟨?_, e.2.2⟩⟩
  have := g.bit e.2.2
  omega
 ·
  rw [Qhm (by rw [Qeg]; omega)]
  simp [h]
theorem Qgh {p : List Nat} (g : Good p) : Good (Qdx p) where
 pos := by rw [Qeg]; exact g.pos
 le := by rw [Qeg]; exact g.le
 lt := fun i hi => by
  rw [Qeg] at hi
  refine Nat.lt_pow_two_of_testBit _ fun j hj => Bool.eq_false_iff.mpr fun e => ?_
  have h := (Qd2 g i j).mp e
  have := g.bit h.2.2
  omega
 tr := fun i hi j h1 m h2 => by
  have a := (Qd2 g i j).mp h1
  have b := (Qd2 g j m).mp h2
  exact (Qd2 g i m).mpr ⟨a.1, b.2.1, g.tr' b.2.2 a.2.2⟩
theorem Qjb {p : List Nat} (g : Good p) {a e : Nat} (ha : a < p.length) (he : e < p.length) : (less (Qdx p) (p.length - 1 - e)).testBit (p.length - 1 - a) = true ↔ (less p a).testBit e = true := by
 rw [Qd2 g, show p.length - 1 - (p.length - 1 - a) = a by omega, show p.length - 1 - (p.length - 1 - e) = e by omega]
 exact ⟨fun h => h.2.2, fun h => ⟨by omega, by omega, h⟩⟩
theorem Qdg (b : Nat) (y : List Nat) : (Qdb b y).length = y.length := by simp [Qdb]
theorem Qde (b : Nat) (y : List Nat) (i : Nat) : (Qdb b y).getD i 0 = if i < y.length then b - y.getD (y.length - 1 - i) 0 else 0 := by
 unfold Qdb
 by_cases h : i < y.length
 ·
  rw [if_pos h, List.getD_eq_getElem?_getD, List.getElem?_map, List.getElem?_reverse h, List.getD_eq_getElem?_getD, List.getElem?_eq_getElem (by omega)]; rfl
 ·
  rw [if_neg h, List.getD_eq_getElem?_getD, List.getElem?_eq_none (by simp; omega)]; rfl
theorem Qkd {x y : List Nat} (hl : x.length = y.length) (h : ∀ i, i < x.length → x.getD i 0 = y.getD i 0) : x = y := by
 refine List.ext_getElem hl fun i h1 h2 => ?_
 have := h i h1
 simpa [List.getD_eq_getElem?_getD, h1, h2] using this
theorem Qle {p y : List Nat} {b : Nat} (g : Good p) (a : Arr p y b) : Arr (Qdx p) (Qdb b y) b where
 len := by rw [Qdg, Qeg, a.len]
 hi := fun i => by rw [Qde]; split <;> omega
 up := fun i j h => by
  have c := (Qd2 g i j).mp h
  have l := a.len
  rw [Qde, Qde, if_pos (by omega), if_pos (by omega), l]
  have := a.up _ _ c.2.2
  omega
theorem Qjl {p y : List Nat} {b : Nat} (a : Arr p y b) : Qdb b (Qdb b y) = y := by
 refine Qkd (by rw [Qdg, Qdg]) fun i hi => ?_
 rw [Qdg, Qdg] at hi
 rw [Qde, Qdg, if_pos hi, Qde, if_pos (by omega), show y.length - 1 - (y.length - 1 - i) = i by omega]
 have := a.hi i
 omega
theorem Qlv {p y : List Nat} {b : Nat} (g : Good p) (a : Arr p y b) {e : Nat} (he : e < p.length) : lowN (Qdx p) (Qdb b y) (p.length - 1 - e) = b - Qdy p y b e := by
 have gd := Qgh g
 have l := a.len
 refine Nat.le_antisymm ((Qe6 gd).mpr fun j hj => ?_) ?_
 ·
  have c := (Qd2 g _ _).mp hj
  rw [show p.length - 1 - (p.length - 1 - e) = e by omega] at c
  rw [Qde, if_pos (by omega), l]
  have := ((Qed (y := y) (b := b) g).mp (Nat.le_refl _)).2 _ c.2.2
  omega
 ·
  have hb := Qe0 (y := y) g b e
  have : b - lowN (Qdx p) (Qdb b y) (p.length - 1 - e) ≤ Qdy p y b e := (Qed g).mpr ⟨Nat.sub_le _ _, fun i hi => by
   have hil := (g.bit hi).2
   have := (Qe6 (y := Qdb b y) gd).mp (Nat.le_refl _) _ ((Qjb g hil he).mpr hi)
   rw [Qde, if_pos (by omega), l, show p.length - 1 - (p.length - 1 - i) = i by omega] at this
   have := a.hi i
   omega⟩
  omega
theorem Qkt {p y : List Nat} {b : Nat} (g : Good p) (a : Arr p y b) {e : Nat} (he : e < p.length) : Qdy (Qdx p) (Qdb b y) b (p.length - 1 - e) = b - lowN p y e := by
 have gd := Qgh g
 have l := a.len
 have hl : lowN p y e ≤ b := Nat.le_trans (Qhz g a e) (a.hi e)
 refine Nat.le_antisymm ?_ ((Qed gd).mpr ⟨Nat.sub_le _ _, fun i hi => ?_⟩)
 ·
  have : lowN p y e ≤ b - Qdy (Qdx p) (Qdb b y) b (p.length - 1 - e) := (Qe6 g).mpr fun j hj => by
   have hje := (g.bit hj).1
   have := ((Qed (y := Qdb b y) (b := b) gd).mp (Nat.le_refl _)).2 _ ((Qjb g he (by omega : j < p.length)).mpr hj)
   rw [Qde, if_pos (by omega), l, show p.length - 1 - (p.length - 1 - j) = j by omega] at this
   have := a.hi j
   omega
  have := Qe0 (y := Qdb b y) gd b (p.length - 1 - e)
  omega
 ·
  have c := (Qd2 g _ _).mp hi
  rw [show p.length - 1 - (p.length - 1 - e) = e by omega] at c
  rw [Qde, if_pos (by omega), l]
  have := (Qe6 (y := y) g).mp (Nat.le_refl _) _ c.2.2
  omega
theorem Qme {p y : List Nat} {b : Nat} (g : Good p) (a : Arr p y b) {e : Nat} (he : e < p.length) : tgN (Qdx p) b (Qdb b y) (p.length - 1 - e) = Qdb b (tgN p b y e) := by
 have l := a.len
 refine Qkd (by rw [Qe7, Qdg, Qdg, Qe7]) fun i hi => ?_
 rw [Qe7, Qdg] at hi
 have h1 := Qhz g a e
 have h2 := Qi0 g a e
 have h3 := Qe0 (y := y) g b e
 rw [Qf2, Qde b (tgN p b y e) i, Qe7, if_pos hi, Qdg, Qf2]
 by_cases c : i = p.length - 1 - e
 ·
  rw [if_pos ⟨c, by omega⟩, if_pos (show y.length - 1 - i = e ∧ e < y.length by omega), Qlv g a he, Qkt g a he, Qde, if_pos (by omega), l, show p.length - 1 - (p.length - 1 - e) = e by omega]
  omega
 ·
  rw [if_neg (fun h => c h.1), if_neg (show ¬ (y.length - 1 - i = e ∧ e < y.length) from fun h => c (by omega)), Qde, if_pos hi]
theorem Qg9 {p : List Nat} {b : Nat} (g : Good p) : ∀ (w y : List Nat), (∀ e ∈ w, e < p.length) → Arr p y b → (w.map (p.length - 1 - ·)).foldl (tgN (Qdx p) b) (Qdb b y) = Qdb b (w.foldl (tgN p b) y)
 | [], y, _, _ => rfl
 | e :: w, y, hw, a => by
  rw [List.map_cons, List.foldl_cons, List.foldl_cons, Qme g a (hw e List.mem_cons_self)]
  exact Qg9 g w _ (fun x hx => hw x (List.mem_cons_of_mem _ hx)) (a.tg g e)
theorem Qlf (n : Nat) : (List.range n).map (n - 1 - ·) = (List.range n).reverse := by
 refine List.ext_getElem (by simp) fun i h1 h2 => ?_
 simp at h1
 simp
theorem Qlo {p y : List Nat} {b : Nat} (g : Good p) (a : Arr p y b) : rowN (Qdx p) b (Qdb b y) = Qdb b (Qey p b y) := by
 unfold rowN Qey
 rw [Qeg, ← Qlf, Qg9 g _ y (fun e he => List.mem_range.mp he) a]
def Qen (p : List Nat) (i j : Nat) : Nat := (List.range j).foldl (fun o j => if (less p (p.length - 1 - j)).testBit (p.length - 1 - i) = true then o ||| 2 ^ j else o) 0
theorem Qlx (p : List Nat) (i j : Nat) : Qen p i j < 2 ^ j := Nat.lt_pow_two_of_testBit _ fun b hb => by
 unfold Qen; rw [Qfq (fun j => (less p (p.length - 1 - j)).testBit (p.length - 1 - i)), decide_eq_false (by omega), Bool.false_and]
def Qdp (p : List Nat) (i j : Nat) : List Nat := (List.range i).map (Qe4 p) ++ Qen p i j :: List.replicate (p.length - (i + 1)) 0
theorem dual_p {p : List Nat} (g : Good p) {i j : Nat} (hi : i < p.length) (hj : j < p.length) : (Qbz.inst (toI p)).p (j : Int) (i : Int) = some ((less p (p.length - 1 - j)).testBit (p.length - 1 - i)) := by
 have hp := g.le
 show (if 0 ≤ wrap64 (wrap64 (((toI p).length : Int) - 1) - (j : Int)) ∧ wrap64 (wrap64 (((toI p).length : Int) - 1) - (j : Int)) < ((toI p).length : Int) then Qdi.f (rd (toI p) (wrap64 (wrap64 (((toI p).length : Int) - 1) - (j : Int)))) (wrap64 (wrap64 (((toI p).length : Int) - 1) - (i : Int))) else none) = _
 have e : ∀ q : Nat, q < p.length → wrap64 (wrap64 (((toI p).length : Int) - 1) - (q : Int)) = ((p.length - 1 - q : Nat) : Int) := fun q hq => by
  rw [toI_len, Qc1 (x := (p.length : Int) - 1) (by omega) (by omega), Qc1 (by omega) (by omega)]; omega
 rw [e j hj, e i hi, if_pos (by rw [toI_len]; omega), Qej]
 exact Qjr (g.lt63 _) (by omega)
theorem Qk9 {p : List Nat} (g : Good p) (i : Nat) (hi : i < p.length) (r : List Int) (c : Ev (fun k => @Qb0.l0 (Qbz.inst (toI p)) k (p.length : Int) ((i + 1 : Nat) : Int) (toI (Qdp p i i))) r) : ∀ (d j : Nat), j + d = i →
  Ev (fun k => @Qb0.l1 (Qbz.inst (toI p)) k (i : Int) (p.length : Int) (i : Int) (i : Int) (j : Int) (toI (Qdp p i j))) r
 | 0, j, h => by
  have hp := g.le
  refine Ev.step (fun _ => @Qb0.l1.eq_2 (Qbz.inst (toI p)) ..) (Qbw (by omega) ?_)
  rw [Qck (by omega)]
  have : j = i := by omega
  subst this
  exact c
 | d + 1, j, h => by
  have hp := g.le
  have ih := Qk9 g i hi r c d (j + 1) (by omega)
  have hl : (toI (Qdp p i j)).length = p.length := by rw [toI_len]; simp [Qdp]; omega
  have eT : Qen p i (j + 1) = if (less p (p.length - 1 - j)).testBit (p.length - 1 - i) = true then Qen p i j ||| 2 ^ j else Qen p i j := by
   unfold Qen; rw [List.range_succ, List.foldl_append, List.foldl_cons, List.foldl_nil]
  refine Ev.step (fun _ => @Qb0.l1.eq_2 (Qbz.inst (toI p)) ..) (Qw (by omega) (Qbo (dual_p g hi (by omega)) (Qc5 (fun e => ?_) (fun e => ?_))))
  ·
   refine Qw (by omega) (Qw (by omega) (Qw (by omega) ?_))
   have hm := lt63 (Qlx p i j) (by omega)
   have er : rd (toI (Qdp p i j)) (i : Int) = ((Qen p i j : Nat) : Int) := by
    rw [Qd1]; unfold Qdp
    rw [List.getD_eq_getElem?_getD, List.getElem?_append_right (by simp)]; simp
   rw [er, Qk5 (by omega), bits_or hm (Nat.lt_of_lt_of_le (Nat.pow_lt_pow_right (by omega) (show j < 63 by omega)) (Nat.le_refl _)), Qck (by omega), Int.toNat_natCast, Qiq]
   have es : (Qdp p i j).set i (Qen p i j ||| 2 ^ j) = Qdp p i (j + 1) := by
    unfold Qdp
    rw [List.set_append_right _ _ (by simp), eT, if_pos e]; simp
   rw [es]; exact ih
  ·
   rw [Qck (by omega)]
   have es : Qdp p i j = Qdp p i (j + 1) := by unfold Qdp; rw [eT, if_neg e]
   rw [es]; exact ih
theorem Qk1 {p : List Nat} (g : Good p) : ∀ (d i : Nat), i + d = p.length → Ev (fun k => @Qb0.l0 (Qbz.inst (toI p)) k (p.length : Int) (i : Int) (toI ((List.range i).map (Qe4 p) ++ List.replicate (p.length - i) 0))) (toI (Qdx p))
 | 0, i, h => by
  refine Ev.step (fun _ => @Qb0.l0.eq_2 (Qbz.inst (toI p)) ..) (Qbw (by omega) ?_)
  have : i = p.length := by omega
  subst this
  rw [Nat.sub_self, List.replicate_zero, List.append_nil]
  exact Ev.now _
 | d + 1, i, h => by
  have ih := Qk1 g d (i + 1) (by omega)
  refine Ev.step (fun _ => @Qb0.l0.eq_2 (Qbz.inst (toI p)) ..) (Qw (by omega) ?_)
  have es : (List.range i).map (Qe4 p) ++ List.replicate (p.length - i) 0 = Qdp p i 0 := by
   unfold Qdp
   rw [show p.length - i = (p.length - (i + 1)) + 1 by omega, List.replicate_succ]; rfl
  have en : (List.range (i + 1)).map (Qe4 p) ++ List.replicate (p.length - (i + 1)) 0 = Qdp p i i := by
   unfold Qdp
   rw [List.range_succ, List.map_append, List.append_assoc]; rfl
  rw [es]
  rw [en] at ih
  exact Qk9 g i (by omega) _ ih i 0 (Nat.zero_add _)
theorem dual_ev {p : List Nat} (g : Good p) : Ev (fun k => Qbz.f k (toI p)) (toI (Qdx p)) := by
 have hp := g.le
 have h := Qk1 g p.length 0 (by omega)
 show Ev (fun k => @Qb0.f (Qbz.inst (toI p)) k ((toI p).length : Int) 0) _
 rw [toI_len]
 refine Qw (by omega) (Qw (by omega) ?_)
 rw [Int.toNat_natCast, show List.replicate p.length (0 : Int) = toI ((List.range 0).map (Qe4 p) ++ List.replicate (p.length - 0) 0) by simp [toI]]
 exact h
theorem Ql1 {p : List Nat} (g : Good p) : Ev (fun k => Qcw.f k (toI p)) (toI (Qdx p), true) :=
 Ev.bind (Qid _) (Qw (Qgx g) (Ev.bind (dual_ev g) (Ev.now _)))
theorem Qma {x y : Int} {a b : List Int} (e : x = y) : decide (x :: a = y :: b) = decide (a = b) :=
 decide_eq_decide.mpr ⟨fun h => (List.cons.inj h).2, fun h => by rw [e, h]⟩
theorem Qj6 (a b : List Int) (hl : a.length ≤ 1000000) (hab : a.length = b.length) : ∀ (d i : Nat), i + d = a.length → Ev (fun k => Q8.l0 k a b (a.length : Int) (i : Int)) (decide (a.drop i = b.drop i))
 | 0, i, h => by
  refine Ev.step (fun _ => Q8.l0.eq_2 ..) (Qbw (by omega) ?_)
  rw [List.drop_of_length_le (by omega), List.drop_of_length_le (by omega)]
  exact Ev.now _
 | d + 1, i, h => by
  refine Ev.step (fun _ => Q8.l0.eq_2 ..) (Qw (by omega) (Qw (by omega) (Qw (by omega) (Qw (by omega) ?_))))
  rw [Qck (by omega), Qd7 (by omega : i < a.length), Qd7 (by omega : i < b.length), List.drop_eq_getElem_cons (by omega : i < a.length), List.drop_eq_getElem_cons (by omega : i < b.length)]
  refine Qc5 (fun e => ?_) (fun e => ?_)
  ·
   rw [Qma e]; exact Qj6 a b hl hab d (i + 1) (by omega)
  ·
   rw [decide_eq_false fun h => e (List.cons.inj h).1]; exact Ev.now false
theorem Qjz (a b : List Int) (hl : a.length ≤ 1000000) : Ev (fun k => Q8.f k a b) (decide (a = b)) := by
 refine Qc5 (fun e => ?_) (fun e => ?_)
 ·
  have := Qj6 a b hl (by omega) a.length 0 (by omega)
  rw [List.drop_zero, List.drop_zero] at this
  exact this
 ·
  rw [decide_eq_false fun h => e (by rw [h])]; exact Ev.now false
theorem Qeo (a : List Int) (hl : a.length ≤ 1000000) : Ev (fun k => Q8.f k a a) true := by simpa using Qjz a a hl
theorem Qj1 (r : List (List Int)) (hr : Qil r) : ∀ (d i : Nat), i + d = r.length → Ev (fun k => Qb7.l0 k r r (r.length : Int) (i : Int)) true
 | 0, i, h => Ev.step (fun _ => Qb7.l0.eq_2 ..) (Qbw (by omega) (Ev.now _))
 | d + 1, i, h => by
  have hi : i < r.length := by omega
  have hl := hr.1
  have hx := hr.2 _ (List.getElem_mem hi)
  refine Ev.step (fun _ => Qb7.l0.eq_2 ..) (Qw (by omega) (Qw (by omega) (Qw (by omega) (Qw (by omega) ?_))))
  rw [Qlc hi, Qck (by omega)]
  exact Ev.bind (Qeo _ (by omega)) (Qw rfl (Qj1 r hr d (i + 1) (by omega)))
theorem Qlg (r : List (List Int)) (hr : Qil r) : Ev (fun k => Qb7.f k r r) true := Qw rfl (Qj1 r hr r.length 0 (Nat.zero_add _))
theorem big_eq (a b : List Int) : ∃ v, Qd9.f a b = some v ∧ (v = false → a.length ≤ 1048576 ∧ b.length ≤ 1048576) := by
 unfold Qd9.f
 by_cases h : (a.length : Int) > 1048576
 ·
  rw [if_pos h]; exact ⟨true, rfl, fun e => by cases e⟩
 ·
  rw [if_neg h]
  refine ⟨_, rfl, fun e => ?_⟩
  rw [decide_eq_false_iff_not, Qc1 (by omega) (by omega)] at e
  omega
structure Cu (c : List Int) (t : Int) (m : Nat) : Prop where
 len : c.length ≤ 1048576
 byt : ∀ x ∈ c, 0 ≤ x ∧ x ≤ 255
 lo : 0 ≤ t
 hi : t ≤ (m : Int)
theorem Cu.mono {c : List Int} {t : Int} {m n : Nat} (h : Cu c t m) (hm : m ≤ n) : Cu c t n := ⟨h.len, h.byt, h.lo, by have := h.hi; omega⟩
theorem Qjt {c : List Int} (hl : c.length ≤ 1048576) (hb : ∀ x ∈ c, (Lit.int .u8 x).wf = true) : Cu c 0 0 :=
 ⟨hl, fun x hx => by
  have h := hb x hx
  simp only [Lit.wf, Bool.and_eq_true, decide_eq_true_eq] at h
  have e0 : IntKind.u8.min = 0 := by decide
  have e1 : IntKind.u8.max = 255 := by decide
  omega, Int.le_refl _, Int.le_refl _⟩
theorem and255 (a : Int) : ∃ v : Nat, v ≤ 255 ∧ Go.bits .and .u64 a 255 = (v : Int) := by
 refine ⟨(BitVec.ofInt IntKind.u64.bits a).toNat &&& (BitVec.ofInt IntKind.u64.bits 255).toNat, ?_, ?_⟩
 ·
  exact Nat.le_trans Nat.and_le_right (by decide)
 ·
  simp only [Go.bits, BitVec.toNat_and]
  have h : (BitVec.ofInt IntKind.u64.bits a).toNat &&& (BitVec.ofInt IntKind.u64.bits 255).toNat ≤ 255 := Nat.le_trans Nat.and_le_right (by decide)
  rw [show ∀ n : Int, IntKind.u64.wrap n = n % 18446744073709551616 from fun n => by simp [IntKind.wrap, IntKind.bits, IntKind.signed]]
  omega
theorem Qk4 {c : List Int} {t s : Int} {m : Nat} (h : Cu c t m) (hm : m ≤ 1000000) : ∃ v t' s', Qc8.f c t s = some (v, t', s') ∧ 0 ≤ v ∧ v ≤ 255 ∧ Cu c t' (m + 1) := by
 have hl := h.len
 have h0 := h.lo
 have h1 := h.hi
 have hc : Cu c (wrap64 (t + 1)) (m + 1) := ⟨h.len, h.byt, by rw [Qc1 (by omega) (by omega)]; omega, by rw [Qc1 (by omega) (by omega)]; omega⟩
 have wb : ∀ a : Int, 0 ≤ wrap64 (Go.bits .and .u64 a 255) ∧ wrap64 (Go.bits .and .u64 a 255) ≤ 255 := fun a => by
  obtain ⟨v, hv, e⟩ := and255 a
  rw [e, Qc1 (by omega) (by omega)]; omega
 unfold Qc8.f
 by_cases c1 : t < (c.length : Int)
 ·
  obtain ⟨i, rfl⟩ : ∃ i : Nat, t = (i : Int) := ⟨t.toNat, by omega⟩
  have hb := h.byt _ (List.getElem_mem (show i < c.length by omega))
  rw [if_pos c1, if_pos h0, Qd7 (by omega)]
  by_cases c2 : wrap64 ((i : Int) + 1) ≤ (c.length : Int)
  ·
   rw [if_pos c2]
   exact ⟨_, _, _, rfl, by rw [Qc1 (by omega) (by omega)]; omega, by rw [Qc1 (by omega) (by omega)]; omega, hc⟩
  ·
   rw [if_neg c2]
   exact ⟨_, _, _, rfl, (wb _).1, (wb _).2, hc⟩
 ·
  rw [if_neg c1]
  by_cases c2 : wrap64 (t + 1) ≤ (c.length : Int)
  ·
   rw [if_pos c2]
   exact ⟨_, _, _, rfl, by omega, by omega, hc⟩
  ·
   rw [if_neg c2]
   exact ⟨_, _, _, rfl, (wb _).1, (wb _).2, hc⟩
theorem Qk8 {a n : Int} (ha : 0 ≤ a) (hn : 0 < n) : 0 ≤ Int.tmod a n ∧ Int.tmod a n < n := by
 rw [Int.tmod_eq_emod_of_nonneg ha]
 exact ⟨Int.emod_nonneg _ (by omega), Int.emod_lt_of_pos _ hn⟩
theorem Qdf {c : List Int} {t s : Int} {m : Nat} (n : Int) (h : Cu c t m) (hm : m ≤ 900000) : ∃ v t' s', Qs.f c t s n = some (v, t', s') ∧ 0 ≤ v ∧ (v < n ∨ v = 0) ∧ Cu c t' (m + 2) := by
 unfold Qs.f
 by_cases c1 : n ≤ 1
 ·
  rw [if_pos c1]
  exact ⟨_, _, _, rfl, Int.le_refl _, .inr rfl, h.mono (by omega)⟩
 ·
  rw [if_neg c1]
  obtain ⟨v, t', s', e, v0, v1, h'⟩ := Qk4 (s := s) h (by omega)
  rw [e, Option.bind_some]
  by_cases c2 : n > 200
  ·
   obtain ⟨v2, t2, s2, e2, a0, a1, h2⟩ := Qk4 (s := s') h' (by omega)
   dsimp only
   rw [if_pos c2, e2, Option.bind_some, if_neg (by omega)]
   dsimp only
   have w : wrap64 (wrap64 (v * 256) + v2) = v * 256 + v2 := by rw [Qc1 (x := v * 256) (by omega) (by omega), Qc1 (by omega) (by omega)]
   have b := Qk8 (a := v * 256 + v2) (n := n) (by omega) (by omega)
   refine ⟨_, _, _, rfl, ?_, .inl ?_, h2⟩
   ·
    show 0 ≤ Int.tmod (wrap64 (wrap64 (v * 256) + v2)) n
    rw [w]; exact b.1
   ·
    show Int.tmod (wrap64 (wrap64 (v * 256) + v2)) n < n
    rw [w]; exact b.2
  ·
   dsimp only
   rw [if_neg c2, if_neg (by omega)]
   have b := Qk8 (a := v) (n := n) v0 (by omega)
   exact ⟨_, _, _, rfl, b.1, .inl b.2, h'.mono (by omega)⟩
theorem one_ok {c : List Int} {t s : Int} {m : Nat} (n : Int) (h : Cu c t m) (hm : m ≤ 900000) : ∃ v t' s', Qdl.f c t s n = some (v, t', s') ∧ Cu c t' (m + 2) := by
 obtain ⟨v, t', s', e, _, _, h'⟩ := Qdf (s := s) n h hm
 unfold Qdl.f
 rw [e, Option.bind_some]
 exact ⟨_, _, _, rfl, h'⟩
theorem Qge {c : List Int} {t s : Int} {m : Nat} (l : List Int) (hl : 0 < l.length) (h : Cu c t m) (hm : m ≤ 900000) : ∃ v t' s', Qb4.f c t s l = some (v, t', s') ∧ v ∈ l ∧ Cu c t' (m + 2) := by
 obtain ⟨v, t', s', e, v0, v1, h'⟩ := Qdf (s := s) (l.length : Int) h hm
 obtain ⟨i, rfl⟩ : ∃ i : Nat, v = (i : Int) := ⟨v.toNat, by omega⟩
 unfold Qb4.f
 rw [e, Option.bind_some]
 have hi : i < l.length := by omega
 dsimp only
 rw [if_pos (by omega), if_pos (by omega), Qd7 hi]
 exact ⟨_, _, _, rfl, List.getElem_mem hi, h'⟩
def Qg4 (n : Nat) (x : List (List Int)) : Prop := ∀ c ∈ x, ∃ i j : Int, c = [i, j] ∧ 0 ≤ i ∧ i < (n : Int)
theorem Qgp {n : Nat} (hn : n ≤ 1000) (x : List (List Int)) (hx : Qg4 n x) (hl : x.length ≤ 100000) (i : Nat) (hi : i < n) (c : ∀ F : List Int, F.length = n → ∃ R : List Int, R.length = n ∧ Ev (fun k => Qba.l0 k (n : Int) x ((i + 1 : Nat) : Int) F) R) : ∀ (d q : Nat) (F : List Int), q + d = x.length → F.length = n →
  ∃ R : List Int, R.length = n ∧ Ev (fun k => Qba.l1 k (n : Int) x (i : Int) x (x.length : Int) (q : Int) F) R
 | 0, q, F, h, hF => by
  obtain ⟨R, hR, e⟩ := c F hF
  refine ⟨R, hR, Ev.step (fun _ => Qba.l1.eq_2 ..) (Qbw (by omega) ?_)⟩
  rw [Qck (by omega)]; exact e
 | d + 1, q, F, h, hF => by
  have hq : q < x.length := by omega
  obtain ⟨a, b, e, ha, hb⟩ := hx _ (List.getElem_mem hq)
  have er : Qb3 x (q : Int) = [a, b] := by unfold Qb3; simp [List.getD_eq_getElem?_getD, hq, e]
  have e0 : rd [a, b] 0 = a := rfl
  have e1 : rd [a, b] 1 = b := rfl
  have el : (([a, b] : List Int).length : Int) = 2 := rfl
  by_cases cb : b = (i : Int)
  ·
   have ih := Qgp hn x hx hl i hi c d (q + 1)
   obtain ⟨R, hR, ev⟩ := ih (F.set i (Go.bits .or .i64 (rd F (i : Int)) (Go.bits .or .i64 (shl .i64 1 a) (rd F a)))) (by omega) (by rw [List.length_set]; exact hF)
   refine ⟨R, hR, Ev.step (fun _ => Qba.l1.eq_2 ..) (Qw (by omega) (Qw (by omega) (Qw (by omega) ?_)))⟩
   rw [er, e0, e1, el]
   refine Qw (by omega) (Qw cb (Qw (by omega) (Qw (by omega) (Qw (by omega) (Qw ha (Qw (by omega) ?_))))))
   rw [Qck (by omega), Int.toNat_natCast]
   exact ev
  ·
   have ih := Qgp hn x hx hl i hi c d (q + 1)
   obtain ⟨R, hR, ev⟩ := ih F (by omega) hF
   refine ⟨R, hR, Ev.step (fun _ => Qba.l1.eq_2 ..) (Qw (by omega) (Qw (by omega) (Qw (by omega) ?_)))⟩
   rw [er, e1, el]
   refine Qw (by omega) (Qbw cb ?_)
   rw [Qck (by omega)]
   exact ev
theorem Qi7 {n : Nat} (hn : n ≤ 1000) (x : List (List Int)) (hx : Qg4 n x) (hl : x.length ≤ 100000) : ∀ (d i : Nat), i + d = n → ∀ F : List Int, F.length = n → ∃ R : List Int, R.length = n ∧ Ev (fun k => Qba.l0 k (n : Int) x (i : Int) F) R
 | 0, i, h, F, hF => ⟨F, hF, Ev.step (fun _ => Qba.l0.eq_2 ..) (Qbw (by omega) (Ev.now _))⟩
 | d + 1, i, h, F, hF => by
  obtain ⟨R, hR, e⟩ := Qgp hn x hx hl i (by omega) (Qi7 hn x hx hl d (i + 1) (by omega)) x.length 0 F (by omega) hF
  exact ⟨R, hR, Ev.step (fun _ => Qba.l0.eq_2 ..) (Qw (by omega) e)⟩
theorem Qi6 {n : Nat} (hn : n ≤ 1000) (x : List (List Int)) (hx : Qg4 n x) (hl : x.length ≤ 100000) : ∃ R : List Int, R.length = n ∧ Ev (fun k => Qba.f k (n : Int) x) R := by
 obtain ⟨R, hR, e⟩ := Qi7 hn x hx hl n 0 (by omega) (List.replicate n 0) (by simp)
 refine ⟨R, hR, Qw (by omega) (Qw (by omega) ?_)⟩
 rw [Int.toNat_natCast]
 exact e
def rectB (a b : Nat) : Bool := match Q4.f 400 (a : Int) (b : Int) with
 | some r => r.length == a * b
 | none => false
theorem rect_all : ((List.range' 1 2).all fun a => (List.range' 1 5).all fun b => rectB a b) = true := by decide +kernel
theorem Qkx {a b : Nat} (h1 : 1 ≤ a) (h2 : a ≤ 2) (h3 : 1 ≤ b) (h4 : b ≤ 5) : ∃ R : List Int, R.length = a * b ∧ Ev (fun k => Q4.f k (a : Int) (b : Int)) R := by
 have h := rect_all
 rw [List.all_eq_true] at h
 have h := h a (by rw [List.mem_range'_1]; omega)
 rw [List.all_eq_true] at h
 have h := h b (by rw [List.mem_range'_1]; omega)
 unfold rectB at h
 split at h
 ·
  rename_i r e
  exact ⟨r, beq_iff_eq.mp h, Ev.of (Q4.mono _ _) e⟩
 ·
  cases h
def stairB (a : Nat) : Bool := match Q5.f 60 (a : Int) with
 | some r => decide (1 ≤ r.1.length) && decide (r.1.length ≤ 10) && r.2
 | none => false
theorem Qly : ((List.range' 1 2).all stairB) = true := by decide +kernel
theorem stair_ok {a : Nat} (h1 : 1 ≤ a) (h2 : a ≤ 2) : ∃ R : List Int × Bool, 1 ≤ R.1.length ∧ R.1.length ≤ 10 ∧ Ev (fun k => Q5.f k (a : Int)) R := by
 have h := Qly
 rw [List.all_eq_true] at h
 have h := h a (by rw [List.mem_range'_1]; omega)
 unfold stairB at h
 split at h
 ·
  rename_i r e
  rw [Bool.and_eq_true, Bool.and_eq_true, decide_eq_true_eq, decide_eq_true_eq] at h
  exact ⟨r, h.1.1, h.1.2, Ev.of (Q5.mono _) e⟩
 ·
  cases h
def fenceB (a : Nat) : Bool := match Qb8.f 400 (a : Int) with
 | some r => r.1.length == a
 | none => false
theorem Qmd : ((List.range' 1 10).all fenceB) = true := by decide +kernel
theorem fence_ok {a : Nat} (h1 : 1 ≤ a) (h2 : a ≤ 10) : ∃ R : List Int × Bool, R.1.length = a ∧ Ev (fun k => Qb8.f k (a : Int)) R := by
 have h := Qmd
 rw [List.all_eq_true] at h
 have h := h a (by rw [List.mem_range'_1]; omega)
 unfold fenceB at h
 split at h
 ·
  rename_i r e
  exact ⟨r, beq_iff_eq.mp h, Ev.of (Qb8.mono _) e⟩
 ·
  cases h
theorem Qla {c : List Int} {n : Nat} (hn : 1 ≤ n) (hn2 : n ≤ 10) : ∀ (d : Nat) (x : List (List Int)) (t s : Int) (m : Nat), Cu c t m → m + 4 * d ≤ 100000 → Qg4 n x → x.length + d ≤ 1000 →
  ∃ (R : List Int) (t' s' : Int), R.length = n ∧ Cu c t' (m + 4 * d) ∧ Ev (fun k => Q2.l0 k (n : Int) x (d : Int) c t s) (R, t', s')
 | 0, x, t, s, m, h, hm, hx, hl => by
  obtain ⟨R, hR, e⟩ := Qi6 (n := n) (by omega) x hx (by omega)
  refine ⟨R, t, s, hR, h.mono (by omega), Ev.step (fun _ => Q2.l0.eq_2 ..) (Qbw (by omega) (Ev.step (fun _ => Q2.j1.eq_2 ..) (Qbw (by simp) ?_)))⟩
  exact Ev.bind e (Ev.now _)
 | d + 1, x, t, s, m, h, hm, hx, hl => by
  by_cases c1 : n ≤ 1
  ·
   obtain ⟨R, hR, e⟩ := Qi6 (n := n) (by omega) x hx (by omega)
   refine ⟨R, t, s, hR, h.mono (by omega), Ev.step (fun _ => Q2.l0.eq_2 ..) (Qw (by omega) (Ev.step (fun _ => Q2.j1.eq_2 ..) (Qbw (by rw [decide_eq_true_eq]; omega) ?_)))⟩
   exact Ev.bind e (Ev.now _)
  ·
   obtain ⟨v, t1, s1, e1, v0, v1, h1⟩ := Qdf (s := s) (wrap64 ((n : Int) - 1)) h (by omega)
   obtain ⟨v2, t2, s2, e2, w0, w1, h2⟩ := Qdf (s := s1) (wrap64 (wrap64 ((n : Int) - 1) - v)) h1 (by omega)
   rw [Qc1 (x := (n : Int) - 1) (by omega) (by omega)] at v1
   obtain ⟨R, t3, s3, hR, h3, e3⟩ := Qla hn hn2 d (x ++ [[v, wrap64 (wrap64 (v + 1) + v2)]]) t2 s2 (m + 4) (h2.mono (by omega)) (by omega) (fun z hz => by
    rcases List.mem_append.mp hz with hz | hz
    ·
     exact hx z hz
    ·
     rw [List.mem_singleton] at hz
     exact ⟨v, _, hz, v0, by omega⟩) (by rw [List.length_append, List.length_singleton]; omega)
   refine ⟨R, t3, s3, hR, h3.mono (by omega), Ev.step (fun _ => Q2.l0.eq_2 ..) (Qw (by omega) (Ev.step (fun _ => Q2.j1.eq_2 ..) (Qw (by rw [decide_eq_true_eq]; omega) ?_)))⟩
   refine Qbo e1 (Qbo e2 (Qw (by omega) ?_))
   rw [show wrap64 (((d + 1 : Nat) : Int) - 1) = (d : Int) by rw [Qc1 (by omega) (by omega)]; omega]
   exact e3
theorem most_eq (a : Nat) (ha : a ≤ 10) : Qcl.f 1 (wrap64 (Int.tdiv (a : Int) 2)) = some ((max 1 (a / 2) : Nat) : Int) := by
 have e : wrap64 (Int.tdiv (a : Int) 2) = ((a / 2 : Nat) : Int) := by
  rw [Int.tdiv_eq_ediv_of_nonneg (by omega), Qc1 (by omega) (by omega)]; omega
 rw [e]; unfold Qcl.f; split <;> (congr 1; omega)
theorem Qes (n : Nat) (h : n ≤ 1000) : wrap64 (1 + (n : Int)) = ((1 + n : Nat) : Int) := by rw [Qc1 (by omega) (by omega)]; omega
def Qh0 (c : List Int) (m : Nat) (f : Nat → Option (List Int × Int × Int)) : Prop := ∃ (R : List Int) (t' s' : Int), 1 ≤ R.length ∧ R.length ≤ 10 ∧ Cu c t' (m + 200) ∧ Ev f (R, t', s')
theorem sure_0 {c : List Int} {t s : Int} {m a : Nat} (ha : 1 ≤ a) (ha2 : a ≤ 10) (h : Cu c t (m + 2)) (hm : m ≤ 10000) :
  Qh0 c m (fun k => (Qs.f c t s 2).bind fun bt176 => (Qcl.f 1 (wrap64 (Int.tdiv (a : Int) 2))).bind fun t179 => (Qs.f c bt176.2.1 bt176.2.2 t179).bind fun bt180 => (Q4.f k (wrap64 (1 + bt176.1)) (wrap64 (1 + bt180.1))).bind fun t183 => some (t183, bt180.2.1, bt180.2.2)) := by
 obtain ⟨w, t2, s2, e2, w0, w1, k2⟩ := Qdf (s := s) 2 h (by omega)
 obtain ⟨wn, rfl⟩ : ∃ n : Nat, w = (n : Int) := ⟨w.toNat, by omega⟩
 obtain ⟨u, t3, s3, e3, u0, u1, k3⟩ := Qdf (s := s2) ((max 1 (a / 2) : Nat) : Int) k2 (by omega)
 obtain ⟨un, rfl⟩ : ∃ n : Nat, u = (n : Int) := ⟨u.toNat, by omega⟩
 have hw : 1 + wn ≤ 2 := by omega
 have hu : 1 + un ≤ 5 := by omega
 obtain ⟨R, hR, e4⟩ := Qkx (a := 1 + wn) (b := 1 + un) (Nat.le_add_right _ _) hw (Nat.le_add_right _ _) hu
 have hl : R.length ≤ 10 := by rw [hR]; exact Nat.mul_le_mul hw hu
 have hl0 : 1 ≤ R.length := by rw [hR]; exact Nat.mul_le_mul (Nat.le_add_right 1 wn) (Nat.le_add_right 1 un)
 refine ⟨R, t3, s3, hl0, hl, k3.mono (by omega), Qbo e2 (Qbo (most_eq a ha2) (Qbo e3 ?_))⟩
 dsimp only
 rw [Qes wn (by omega), Qes un (by omega)]
 exact Ev.bind e4 (Ev.now _)
theorem sure_1 {c : List Int} {t s : Int} {m : Nat} (h : Cu c t (m + 2)) (hm : m ≤ 10000) :
  Qh0 c m (fun k => (Qs.f c t s 2).bind fun bt186 => (Q5.f k (wrap64 (1 + bt186.1))).bind fun bt189 => some (bt189.1, bt186.2.1, bt186.2.2)) := by
 obtain ⟨w, t2, s2, e2, w0, w1, k2⟩ := Qdf (s := s) 2 h (by omega)
 obtain ⟨wn, rfl⟩ : ∃ n : Nat, w = (n : Int) := ⟨w.toNat, by omega⟩
 obtain ⟨R, hR, hR2, e4⟩ := stair_ok (a := 1 + wn) (by omega) (by omega)
 refine ⟨R.1, t2, s2, hR, hR2, k2.mono (by omega), Qbo e2 ?_⟩
 dsimp only
 rw [Qes wn (by omega)]
 exact Ev.bind e4 (Ev.now _)
theorem sure_2 {c : List Int} {t s : Int} {m a : Nat} (ha : 1 ≤ a) (ha2 : a ≤ 10) (h : Cu c t (m + 2)) (hm : m ≤ 10000) :
  Qh0 c m (fun k => (Qs.f c t s (a : Int)).bind fun bt194 => (Qb8.f k (wrap64 (1 + bt194.1))).bind fun bt197 => some (bt197.1, bt194.2.1, bt194.2.2)) := by
 obtain ⟨w, t2, s2, e2, w0, w1, k2⟩ := Qdf (s := s) (a : Int) h (by omega)
 obtain ⟨wn, rfl⟩ : ∃ n : Nat, w = (n : Int) := ⟨w.toNat, by omega⟩
 obtain ⟨R, hR, e4⟩ := fence_ok (a := 1 + wn) (by omega) (by omega)
 refine ⟨R.1, t2, s2, by omega, by omega, k2.mono (by omega), Qbo e2 ?_⟩
 dsimp only
 rw [Qes wn (by omega)]
 exact Ev.bind e4 (Ev.now _)
theorem Qmc (n : Nat) (h : n ≤ 1000) : wrap64 (2 * ((n : Nat) : Int)) = ((2 * n : Nat) : Int) := by rw [Qc1 (by omega) (by omega)]; omega
theorem sure_3 {c : List Int} {t s : Int} {m a : Nat} (ha : 1 ≤ a) (ha2 : a ≤ 10) (h : Cu c t (m + 2)) (hm : m ≤ 10000) :
  Qh0 c m (fun k => (Qs.f c t s (a : Int)).bind fun bt202 => (Qs.f c bt202.2.1 bt202.2.2 (wrap64 (2 * (wrap64 (1 + bt202.1))))).bind fun bt205 => Q2.l0 k (wrap64 (1 + bt202.1)) ([] : List (List Int)) bt205.1 c bt205.2.1 bt205.2.2) := by
 obtain ⟨w, t2, s2, e2, w0, w1, k2⟩ := Qdf (s := s) (a : Int) h (by omega)
 obtain ⟨wn, rfl⟩ : ∃ n : Nat, w = (n : Int) := ⟨w.toNat, by omega⟩
 obtain ⟨u, t3, s3, e3, u0, u1, k3⟩ := Qdf (s := s2) ((2 * (1 + wn) : Nat) : Int) k2 (by omega)
 obtain ⟨un, rfl⟩ : ∃ n : Nat, u = (n : Int) := ⟨u.toNat, by omega⟩
 obtain ⟨R, t4, s4, hR, k4, e4⟩ := Qla (c := c) (n := 1 + wn) (by omega) (by omega) un [] t3 s3 (m + 6) (k3.mono (by omega)) (by omega) (fun z hz => by cases hz) (by rw [List.length_nil]; omega)
 refine ⟨R, t4, s4, by omega, by omega, k4.mono (by omega), Qbo e2 ?_⟩
 dsimp only
 rw [Qes wn (by omega), Qmc (1 + wn) (by omega)]
 exact Qbo e3 e4
theorem sure_ok {c : List Int} {t s : Int} {m : Nat} {a : Nat} (h1 : 1 ≤ a) (h2 : a ≤ 10) (h : Cu c t m) (hm : m ≤ 10000) : Qh0 c m (fun k => Q2.f k c t s (a : Int)) := by
 obtain ⟨v, t1, s1, e1, v0, v1, k1⟩ := Qdf (s := s) 5 h (by omega)
 by_cases c0 : v = 0
 ·
  obtain ⟨R, t', s', a1, a2, a3, e⟩ := sure_0 (s := s1) h1 h2 k1 hm
  exact ⟨R, t', s', a1, a2, a3, Qbo e1 (Qw c0 e)⟩
 ·
  by_cases c1 : v = 1
  ·
   obtain ⟨R, t', s', a1, a2, a3, e⟩ := sure_1 (s := s1) k1 hm
   exact ⟨R, t', s', a1, a2, a3, Qbo e1 (Qbw c0 (Qw c1 e))⟩
  ·
   by_cases c2 : v = 2
   ·
    obtain ⟨R, t', s', a1, a2, a3, e⟩ := sure_2 (s := s1) h1 h2 k1 hm
    exact ⟨R, t', s', a1, a2, a3, Qbo e1 (Qbw c0 (Qbw c1 (Qw c2 e)))⟩
   ·
    obtain ⟨R, t', s', a1, a2, a3, e⟩ := sure_3 (s := s1) h1 h2 k1 hm
    exact ⟨R, t', s', a1, a2, a3, Qbo e1 (Qbw c0 (Qbw c1 (Qbw c2 e)))⟩
theorem Qki (c : List Int) (t s : Int) : ∀ (d i : Nat) (F : List Int), i + d = 11 → F.length + d ≤ 1000 → ∃ R : List Int, R.length = F.length + d ∧ Ev (fun k => Qbf.l0 k (i : Int) c t s F) (R, t, s)
 | 0, i, F, h, hF => ⟨F, rfl, Ev.step (fun _ => Qbf.l0.eq_2 ..) (Qbw (by omega) (Ev.now _))⟩
 | d + 1, i, F, h, hF => by
  obtain ⟨R, hR, e⟩ := Qki c t s d (i + 1) (F ++ [0]) (by omega) (by rw [List.length_append, List.length_singleton]; omega)
  refine ⟨R, by rw [hR, List.length_append, List.length_singleton]; omega, Ev.step (fun _ => Qbf.l0.eq_2 ..) (Qw (by omega) (Qw (by omega) ?_))⟩
  rw [Qck (by omega)]; exact e
theorem poset_ok {c : List Int} {t s : Int} {m : Nat} {a : Nat} (h1 : 1 ≤ a) (h2 : a ≤ 10) (h : Cu c t m) (hm : m ≤ 5000) : ∃ (R : List Int) (t' s' : Int), R.length ≤ 21 ∧ Cu c t' (m + 300) ∧ Ev (fun k => Qbf.f k c t s (a : Int)) (R, t', s') := by
 obtain ⟨R, t1, s1, hR, hR2, k1, e1⟩ := sure_ok (s := s) h1 h2 h (by omega)
 obtain ⟨v, t2, s2, e2, v0, v1, k2⟩ := Qdf (s := s1) 20 k1 (by omega)
 have eo := Qeq R (by omega)
 by_cases c0 : v = 0
 ·
  obtain ⟨w, t3, s3, e3, w0, w1, k3⟩ := Qdf (s := s2) (R.length : Int) k2 (by omega)
  obtain ⟨u, t4, s4, e4, _, k4⟩ := Qge (s := s3) [(-1), 1, 3, shl .i64 1 w, 4611686018427387904] (by simp) k3 (by omega)
  refine ⟨R.set w.toNat u, t4, s4, by rw [List.length_set]; omega, k4.mono (by omega), Ev.bind e1 (Qbo eo (Qbo e2 (Qw c0 (Qbo e3 (Qw w0 (Qbo e4 (Qw ?_ (Ev.now _))))))))⟩
  show w < (R.length : Int)
  omega
 ·
  by_cases c1 : v = 1
  ·
   exact ⟨[], t2, s2, by simp, k2.mono (by omega), Ev.bind e1 (Qbo eo (Qbo e2 (Qbw c0 (Qw c1 (Ev.now _)))))⟩
  ·
   by_cases c2 : v = 2
   ·
    obtain ⟨F, hF, e⟩ := Qki c t2 s2 11 0 R (by omega) (by omega)
    exact ⟨F, t2, s2, by omega, k2.mono (by omega), Ev.bind e1 (Qbo eo (Qbo e2 (Qbw c0 (Qbw c1 (Qw c2 e)))))⟩
   ·
    exact ⟨R, t2, s2, by omega, k2.mono (by omega), Ev.bind e1 (Qbo eo (Qbo e2 (Qbw c0 (Qbw c1 (Qbw c2 (Ev.now _))))))⟩
def ArrR (c : List Int) (M : Nat) (f : Nat → Option (List Int × List Int × Int × Int × Int)) : Prop := ∃ (R x : List Int) (b t' s' : Int), R.length ≤ 21 ∧ x.length ≤ 12 ∧ Cu c t' M ∧ Ev f (R, x, b, t', s')
theorem Qhn (a b : Int) : ∃ v, Qcl.f a b = some v := by unfold Qcl.f; split <;> exact ⟨_, rfl⟩
theorem Qj4 (n : Nat) : Qc0.f (n : Int) 11 = some ((min n 11 : Nat) : Int) := by unfold Qc0.f; split <;> (congr 1; omega)
theorem Qjq {c : List Int} {M : Nat} (b : Int) (x : List Int) (F : List Int) (hF : F.length ≤ 21) (hx : x.length < F.length) (t s : Int)
  (tl : ∀ low : Int, ArrR c M (fun k => (Qcl.f 0 (wrap64 (b - low))).bind fun t263 => (Qs.f c t s (wrap64 (t263 + 1))).bind fun bt264 => if x.length < 17592186044416 then Q0.l0 k b (x ++ [wrap64 (low + bt264.1)]) (wrap64 ((x.length : Int) + 1)) c bt264.2.1 bt264.2.2 F else none)) : ∀ (d q : Nat) (low : Int), q + d = x.length →
  ArrR c M (fun k => Q0.l1 k b x (x.length : Int) low x (x.length : Int) (q : Int) c t s F)
 | 0, q, low, h => by
  obtain ⟨R, z, b', t', s', h1, h2, h3, e⟩ := tl low
  exact ⟨R, z, b', t', s', h1, h2, h3, Ev.step (fun _ => Q0.l1.eq_2 ..) (Qbw (by omega) e)⟩
 | d + 1, q, low, h => by
  have hq : q < x.length := by omega
  by_cases hb : Qcr.f (rd F (x.length : Int)) (q : Int) = some true
  ·
   obtain ⟨v, hv⟩ := Qhn low (rd x (q : Int))
   obtain ⟨R, z, b', t', s', h1, h2, h3, e⟩ := Qjq b x F hF hx t s tl d (q + 1) v (by omega)
   refine ⟨R, z, b', t', s', h1, h2, h3, Ev.step (fun _ => Q0.l1.eq_2 ..) (Qw (by omega) (Qw (by omega) (Qw (by omega) (Qw (by omega) (Qw (by omega) (Qbo hb (Qw rfl (Qbo hv ?_))))))))⟩
   rw [Qck (by omega)]; exact e
  ·
   have hb2 : Qcr.f (rd F (x.length : Int)) (q : Int) = some false := by
    unfold Qcr.f at hb ⊢
    rw [if_pos (by omega)] at hb ⊢
    rw [Option.some.injEq] at hb ⊢
    exact Bool.eq_false_iff.mpr hb
   obtain ⟨R, z, b', t', s', h1, h2, h3, e⟩ := Qjq b x F hF hx t s tl d (q + 1) low (by omega)
   refine ⟨R, z, b', t', s', h1, h2, h3, Ev.step (fun _ => Q0.l1.eq_2 ..) (Qw (by omega) (Qw (by omega) (Qw (by omega) (Qw (by omega) (Qw (by omega) (Qbo hb2 (Qbw (by simp) ?_)))))))⟩
   rw [Qck (by omega)]; exact e
theorem arr_l0 {c : List Int} (b : Int) (F : List Int) (hF : F.length ≤ 21) : ∀ (d : Nat) (x : List Int) (t s : Int) (m : Nat), x.length + d = min F.length 11 → Cu c t m → m + 2 * d ≤ 800000 →
  ArrR c (m + 2 * d + 10) (fun k => Q0.l0 k b x (x.length : Int) c t s F)
 | 0, x, t, s, m, h, hc, hm => by
  obtain ⟨v, t1, s1, e1, v0, v1, k1⟩ := Qdf (s := s) 16 hc (by omega)
  have hl := Qj4 F.length
  have go : ∀ {f : Nat → Option (List Int × List Int × Int × Int × Int)} {r}, Ev f r → Ev (fun k => (Qc0.f (F.length : Int) 11).bind fun t262 => if (x.length : Int) < t262 then Q0.l1 k b x (x.length : Int) 0 x (x.length : Int) 0 c t s F else f k) r := fun e => Qbo hl (Qbw (by omega) e)
  by_cases c0 : v = 0
  ·
   exact ⟨F, x ++ [0], b, t1, s1, hF, by rw [List.length_append, List.length_singleton]; omega, k1.mono (by omega), Ev.step (fun _ => Q0.l0.eq_2 ..) (go (Qbo e1 (Qw c0 (Qw (by omega) (Ev.now _)))))⟩
  ·
   by_cases c1 : v = 1
   ·
    by_cases hx : (x.length : Int) > 0
    ·
     obtain ⟨w, t2, s2, e2, w0, w1, k2⟩ := Qdf (s := s1) (x.length : Int) k1 (by omega)
     obtain ⟨u, t3, s3, e3, _, k3⟩ := Qge (s := s2) [(-1), 0, b, wrap64 (b + 1), 4611686018427387904] (by simp) k2 (by omega)
     have hw : w < (x.length : Int) := by omega
     exact ⟨F, x.set w.toNat u, b, t3, s3, hF, by rw [List.length_set]; omega, k3.mono (by omega), Ev.step (fun _ => Q0.l0.eq_2 ..) (go (Qbo e1 (Qbw c0 (Qw c1 (Qw hx (Qbo e2 (Qbo e3 (Qw w0 (Qw hw (Ev.now _)))))))))) ⟩
    ·
     exact ⟨F, x, b, t1, s1, hF, by omega, k1.mono (by omega), Ev.step (fun _ => Q0.l0.eq_2 ..) (go (Qbo e1 (Qbw c0 (Qw c1 (Qbw hx (Ev.now _))))))⟩
   ·
    by_cases c2 : v = 2
    ·
     obtain ⟨u, t3, s3, e3, _, k3⟩ := Qge (s := s1) [(-1), 21, 0] (by simp) k1 (by omega)
     exact ⟨F, x, u, t3, s3, hF, by omega, k3.mono (by omega), Ev.step (fun _ => Q0.l0.eq_2 ..) (go (Qbo e1 (Qbw c0 (Qbw c1 (Qw c2 (Qbo e3 (Ev.now _)))))))⟩
    ·
     exact ⟨F, x, b, t1, s1, hF, by omega, k1.mono (by omega), Ev.step (fun _ => Q0.l0.eq_2 ..) (go (Qbo e1 (Qbw c0 (Qbw c1 (Qbw c2 (Ev.now _))))))⟩
 | d + 1, x, t, s, m, h, hc, hm => by
  have hl := Qj4 F.length
  obtain ⟨R, z, b', t', s', h1, h2, h3, e⟩ := Qjq (c := c) (M := m + 2 * (d + 1) + 10) b x F hF (by omega) t s (fun low => by
   obtain ⟨v, hv⟩ := Qhn 0 (wrap64 (b - low))
   obtain ⟨w, t1, s1, e1, _, _, k1⟩ := Qdf (s := s) (wrap64 (v + 1)) hc (by omega)
   obtain ⟨R, z, b', t', s', h1, h2, h3, e⟩ := arr_l0 b F hF d (x ++ [wrap64 (low + w)]) t1 s1 (m + 2) (by rw [List.length_append, List.length_singleton]; omega) k1 (by omega)
   refine ⟨R, z, b', t', s', h1, h2, h3.mono (by omega), Qbo hv (Qbo e1 (Qw (by omega) ?_))⟩
   rw [Qck (by omega)]
   rw [List.length_append, List.length_singleton] at e
   exact e) x.length 0 0 (Nat.zero_add _)
  exact ⟨R, z, b', t', s', h1, h2, h3, Ev.step (fun _ => Q0.l0.eq_2 ..) (Qbo hl (Qw (by omega) e))⟩
theorem Qj8 {c : List Int} {t s : Int} {m : Nat} {a : Nat} (h1 : 1 ≤ a) (h2 : a ≤ 10) (h : Cu c t m) (hm : m ≤ 5000) : ArrR c (m + 400) (fun k => Q0.f k c t s (a : Int)) := by
 obtain ⟨R, t1, s1, hR, k1, e1⟩ := poset_ok (s := s) h1 h2 h hm
 obtain ⟨b, t2, s2, e2, _, k2⟩ := Qge (s := s1) [1, 2, 3, 5, 10, 20, 0] (by simp) k1 (by omega)
 obtain ⟨F, x, b', t', s', g1, g2, g3, e⟩ := arr_l0 (c := c) b R hR (min R.length 11) [] t2 s2 (m + 302) (by rw [List.length_nil]; omega) (k2.mono (by omega)) (by omega)
 exact ⟨F, x, b', t', s', g1, g2, g3.mono (by omega), Ev.bind e1 (Qbo e2 e)⟩
def Qg8 (f : Nat → Option (List Int × List Int × Int)) : Prop := ∃ (R x : List Int) (b : Int), R.length ≤ 21 ∧ x.length ≤ 12 ∧ Ev f (R, x, b)
theorem Qkk {c : List Int} (h : Cu c 0 0) : Qg8 (fun k => Qc4.f k c) := by
 obtain ⟨F, x, b', t', s', g1, g2, g3, e⟩ := Qj8 (s := 0) (a := 10) (by omega) (by omega) h (by omega)
 exact ⟨F, x, b', g1, g2, Ev.bind e (Ev.now _)⟩
theorem Qld {c : List Int} (h : Cu c 0 0) : Qg8 (fun k => Qcd.f k c) := by
 obtain ⟨F, x, b', g1, g2, e⟩ := Qkk h
 exact ⟨F, x, b', g1, g2, Ev.bind e (Ev.now _)⟩
theorem Qj2 {c : List Int} (b : Int) (x : List Int) (F : List Int) (hF : F.length ≤ 21) (hx : x.length < F.length) (t s : Int)
  (tl : ∀ low : Int, Qg8 (fun k => (Qs.f c t s (wrap64 (wrap64 (b - low) + 1))).bind fun bt311 => if x.length < 17592186044416 then Qz.l0 k b (x ++ [wrap64 (low + bt311.1)]) (F.length : Int) (wrap64 ((x.length : Int) + 1)) c bt311.2.1 bt311.2.2 F else none)) : ∀ (d q : Nat) (low : Int), q + d = x.length →
  Qg8 (fun k => Qz.l1 k b x (x.length : Int) low (F.length : Int) (x.length : Int) x (x.length : Int) (q : Int) c t s F)
 | 0, q, low, h => by
  obtain ⟨R, z, b', h1, h2, e⟩ := tl low
  exact ⟨R, z, b', h1, h2, Ev.step (fun _ => Qz.l1.eq_2 ..) (Qbw (by omega) e)⟩
 | d + 1, q, low, h => by
  have hq : q < x.length := by omega
  by_cases hb : Qcr.f (rd F (x.length : Int)) (q : Int) = some true
  ·
   obtain ⟨v, hv⟩ := Qhn low (rd x (q : Int))
   obtain ⟨R, z, b', h1, h2, e⟩ := Qj2 b x F hF hx t s tl d (q + 1) v (by omega)
   refine ⟨R, z, b', h1, h2, Ev.step (fun _ => Qz.l1.eq_2 ..) (Qw (by omega) (Qw (by omega) (Qw (by omega) (Qw (by omega) (Qw (by omega) (Qbo hb (Qw rfl (Qbo hv ?_))))))))⟩
   rw [Qck (by omega)]; exact e
  ·
   have hb2 : Qcr.f (rd F (x.length : Int)) (q : Int) = some false := by
    unfold Qcr.f at hb ⊢
    rw [if_pos (by omega)] at hb ⊢
    rw [Option.some.injEq] at hb ⊢
    exact Bool.eq_false_iff.mpr hb
   obtain ⟨R, z, b', h1, h2, e⟩ := Qj2 b x F hF hx t s tl d (q + 1) low (by omega)
   refine ⟨R, z, b', h1, h2, Ev.step (fun _ => Qz.l1.eq_2 ..) (Qw (by omega) (Qw (by omega) (Qw (by omega) (Qw (by omega) (Qw (by omega) (Qbo hb2 (Qbw (by simp) ?_)))))))⟩
   rw [Qck (by omega)]; exact e
theorem dao_l0 {c : List Int} (b : Int) (F : List Int) (hF : F.length ≤ 10) : ∀ (d : Nat) (x : List Int) (t s : Int) (m : Nat), x.length + d = F.length → Cu c t m → m + 2 * d ≤ 800000 →
  Qg8 (fun k => Qz.l0 k b x (F.length : Int) (x.length : Int) c t s F)
 | 0, x, t, s, m, h, hc, hm => ⟨F, x, b, by omega, by omega, Ev.step (fun _ => Qz.l0.eq_2 ..) (Qbw (by omega) (Ev.now _))⟩
 | d + 1, x, t, s, m, h, hc, hm => by
  obtain ⟨R, z, b', h1, h2, e⟩ := Qj2 (c := c) b x F (by omega) (by omega) t s (fun low => by
   obtain ⟨w, t1, s1, e1, _, _, k1⟩ := Qdf (s := s) (wrap64 (wrap64 (b - low) + 1)) hc (by omega)
   obtain ⟨R, z, b', h1, h2, e⟩ := dao_l0 b F hF d (x ++ [wrap64 (low + w)]) t1 s1 (m + 2) (by rw [List.length_append, List.length_singleton]; omega) k1 (by omega)
   refine ⟨R, z, b', h1, h2, Qbo e1 (Qw (by omega) ?_)⟩
   rw [Qck (by omega)]
   rw [List.length_append, List.length_singleton] at e
   exact e) x.length 0 0 (Nat.zero_add _)
  exact ⟨R, z, b', h1, h2, Ev.step (fun _ => Qz.l0.eq_2 ..) (Qw (by omega) e)⟩
theorem Qi1 {c : List Int} (h : Cu c 0 0) : Qg8 (fun k => Qz.f k c) := by
 obtain ⟨o, t1, s1, e1, k1⟩ := one_ok (s := 0) 2 h (by omega)
 by_cases ho : o = true
 ·
  obtain ⟨v, t2, s2, e2, v0, v1, k2⟩ := Qdf (s := s1) 3 k1 (by omega)
  obtain ⟨vn, rfl⟩ : ∃ n : Nat, v = (n : Int) := ⟨v.toNat, by omega⟩
  have hv : 1 + vn ≤ 5 := by omega
  obtain ⟨R, hR, e3⟩ := Qkx (a := 2) (b := 1 + vn) (by omega) (by omega) (Nat.le_add_right _ _) hv
  have hl : R.length ≤ 10 := by omega
  obtain ⟨u, t4, s4, e4, _, _, k4⟩ := Qdf (s := s2) 6 k2 (by omega)
  obtain ⟨F, x, b', g1, g2, e⟩ := dao_l0 (c := c) (wrap64 (1 + u)) R hl R.length [] t4 s4 6 (by rw [List.length_nil]; omega) (k4.mono (by omega)) (by omega)
  refine ⟨F, x, b', g1, g2, Qbo e1 (Qw ho (Qbo e2 ?_))⟩
  dsimp only
  rw [Qes vn (by omega)]
  exact Ev.bind e3 (Qbo e4 e)
 ·
  obtain ⟨F, x, b', t', s', g1, g2, g3, e⟩ := Qj8 (s := s1) (a := 5) (by omega) (by omega) k1 (by omega)
  exact ⟨F, x, b', g1, g2, Qbo e1 (Qbw ho (Ev.bind e (Ev.now _)))⟩
end Go.Proofs.Ytkgngggppcmpfaa.M
end
section
namespace Go.Proofs.Ytkgngggppcmpfaa.M
open Go.RowKit Go.Proofs.Ytkgngggppcmpfaa.L Go.Proofs.Ytkgngggppcmpfaa.M Go.Proofs.YtkgngggppcmpfaaW.PrintWords Go.Proofs.YtkgngggppcmpfaaW.PrintLast Go.Proofs.YtkgngggppcmpfaaW.PrintMore
set_option linter.unusedVariables false
theorem Qhl {α : Type} (f : α → α) : ∀ (n : Nat) (x : α), iter f (n + 1) x = f (iter f n x)
 | 0, _ => rfl
 | n + 1, x => by show iter f (n + 1) (f x) = _; rw [Qhl f n (f x)]; rfl
theorem Qjs {p : List Nat} {b : Nat} (g : Good p) : ∀ (n : Nat) {y : List Nat}, Arr p y b → Arr p (iter (rowN p b) n y) b
 | 0, y, a => a
 | n + 1, y, a => Qjs g n (a.row g)
theorem Qji {p : List Nat} {b : Nat} {y : List Nat} : ∀ (d n : Nat) (out : List (List Int)) (z : List Nat) (rows : List (List Int)), 0 < n → out = (List.range n).map (fun i => toI (iter (rowN p b) i y)) → z = iter (rowN p b) n y → (∀ i, 0 < i → i < n → iter (rowN p b) i y ≠ y) → orbA p b y d out z = (rows, true) →
  ∃ N, 0 < N ∧ N ≤ n + d ∧ rows = (List.range N).map (fun i => toI (iter (rowN p b) i y)) ∧ iter (rowN p b) N y = y ∧ ∀ i, 0 < i → i < N → iter (rowN p b) i y ≠ y
 | 0, n, out, z, rows, hn, ho, hz, hi, h => by
  rw [orbA] at h
  split at h
  ·
   rename_i e
   injection h with h1 _
   exact ⟨n, hn, Nat.le_refl _, by rw [← h1, ho], by rw [← hz, e], hi⟩
  ·
   injection h with _ h2; cases h2
 | d + 1, n, out, z, rows, hn, ho, hz, hi, h => by
  rw [orbA] at h
  split at h
  ·
   rename_i e
   injection h with h1 _
   exact ⟨n, hn, by omega, by rw [← h1, ho], by rw [← hz, e], hi⟩
  ·
   rename_i e
   obtain ⟨N, h0, h1, h2⟩ := Qji d (n + 1) _ _ rows (by omega) (by rw [ho, hz, List.range_succ, List.map_append]; rfl) (by rw [hz, Qhl]) (fun i h0 h1 => by
    by_cases c : i = n
    ·
     subst c; rw [← hz]; exact e
    ·
     exact hi i h0 (by omega)) h
   exact ⟨N, h0, by omega, h2⟩
theorem Qgo {p y : List Nat} {c : Nat} (g : Good p) (hc : c ≤ 20) (a : Arr p y c) : Ev (fun k => Qcf.f k (toI p) (toI y) (c : Int)) (toI (rowN p c y), true) := by
 have hp := g.le
 have hs := a.small g
 obtain ⟨r, _, _, hi, _, hv⟩ := RAT_ev (toI p) (toI y) (c : Int) 1 (by rw [toI_len]; omega) (by rw [toI_len]; omega)
 have e := (hv p y c rfl rfl rfl g hc a).1 rfl
 rw [e] at hi
 exact Ev.bind hi (Ev.now _)
theorem Qkm {p y : List Nat} {c : Nat} (g : Good p) (hc : c ≤ 20) (a : Arr p y c) : Ev (fun k => Qca.f k (toI p) (toI y) (c : Int)) (toI (Qey p c y), true) := by
 have hp := g.le
 have hs := a.small g
 obtain ⟨r, _, _, hi, _, hv⟩ := RAT_ev (toI p) (toI y) (c : Int) (-1) (by rw [toI_len]; omega) (by rw [toI_len]; omega)
 have e := (hv p y c rfl rfl rfl g hc a).2 rfl
 rw [e] at hi
 exact Ev.bind hi (Ev.now _)
theorem Qf9 {p y : List Nat} {c : Nat} (g : Good p) (hc : c ≤ 20) (a : Arr p y c) : Ev (fun k => Qby.f k (toI p) (toI y) (c : Int)) (toI (Qdb c y), true) := by
 have h := Qgt g hc a
 have hy : y.length ≤ 10 := a.small g
 have hb : Ev (fun k => Qb6.f k (toI y)) (toI y.reverse) := by
  refine Qbo (Qd0 _ (by rw [toI_len]; omega)) (Ev.bind (Qep _ (by rw [toI_len]; omega)) ?_)
  rw [Qfx]; exact Ev.now _
 have ht := Qgz hc y.reverse (fun i => by
  by_cases hi : i < y.reverse.length
  ·
   rw [List.getD_eq_getElem?_getD, List.getElem?_eq_getElem hi, Option.getD_some, List.getElem_reverse]
   have := a.hi (y.length - 1 - i)
   have hi2 : y.length - 1 - i < y.length := by simp at hi; omega
   rw [List.getD_eq_getElem?_getD, List.getElem?_eq_getElem hi2, Option.getD_some] at this
   exact this
  ·
   rw [List.getD_eq_getElem?_getD, List.getElem?_eq_none (by omega)]; exact Nat.zero_le _) (by simpa using hy) _ 0 [] (Nat.zero_add _) (by simp; omega)
 rw [List.drop_zero, List.nil_append] at ht
 exact Ev.bind (Qdh _ _ _) (Qw h (Ev.bind (Ev.bind hb ht) (Ev.now _)))
theorem Qmb {l x : List Int} {b : Int} (h : ¬ Qdv l x b = true) : Ev (fun k => Qby.f k l x b) ([], false) := Ev.bind (Qdh _ _ _) (Qbw h (Ev.now _))
theorem Ql3 {p y : List Nat} {c : Nat} (g : Good p) (hc : c ≤ 20) (a : Arr p y c) : Ev (fun k => Qct.f k (toI p) (toI y) (c : Int)) (true, true) := by
 refine Ev.bind (Qi3 _ _) (Qw (by rw [Qgx g, Bool.true_and, Qdj]; omega) (Qbo (n_eq _) (Qw (by rw [toI_len, toI_len, a.len]) ?_)))
 refine Ev.bind (Qgs g (toI y) c (by omega) (by rw [toI_len, a.len])) ?_
 rw [Qlb a]
 exact Ev.now _
theorem j2_true {c : List Int} (h : Cu c 0 0) : Ev (fun k => laws_FnArrayOrbits.j2 k c) true := by
 obtain ⟨R, x, b, hR, hx, e⟩ := Qld h
 obtain ⟨r, hr, hs, hi⟩ := Qfd R x b (by omega) (by omega)
 refine Ev.step (fun _ => laws_FnArrayOrbits.j2.eq_2 ..) (Ev.bind e (Ev.bind hi (Ev.bind hs (Qbw (by simp) (Ev.bind (Qeo _ (by omega)) (Ev.step (fun _ => laws_FnArrayOrbits.j3.eq_2 ..) (Qbw (by simp) ?_)))))))
 by_cases ha : Qdv R x b = true
 ·
  obtain ⟨p, y, q, rfl, rfl, rfl, g, hq, a⟩ := Qe5 ha
  have er := Qic hi (Qf9 g hq a)
  rw [er]
  have gd := Qgh g
  have md := Qle g a
  have hy := a.small g
  refine Qw rfl (Ev.bind (Ql1 g) (Ev.bind (Ql3 gd hq md) (Ev.bind (Qf9 gd hq md) (Ev.bind (Qkm g hq a) (Ev.bind (Qf9 g hq (a.back g)) (Ev.bind (Qgo gd hq md) ?_))))))
  rw [Qjl a, Qlo g a]
  exact Qw rfl (Qw rfl (Qw rfl (Qw rfl (Ev.bind (Qeo _ (by rw [toI_len]; omega)) (Qw rfl (Qw rfl (Qw rfl (Qw rfl (Ev.bind (Qeo _ (by rw [toI_len, Qdg, Qjc]; omega)) (Ev.now _))))))))))
 ·
  have er := Qic hi (Qmb ha)
  rw [er]
  exact Qbw (by simp) (Ev.now _)
theorem Qja {c : List Int} {p y : List Nat} {b : Nat} (g : Good p) (hb : b ≤ 20) (a : Arr p y b) {N : Nat} (h0 : 0 < N) (hN : N ≤ 2000) (hl : iter (rowN p b) N y = y) (hm : ∀ i, 0 < i → i < N → iter (rowN p b) i y ≠ y) (e : Ev (fun k => laws_FnArrayOrbits.j2 k c) true) (X : List (List Int)) (hX : X = (List.range N).map fun i => toI (iter (rowN p b) i y)) : ∀ (d q : Nat), q + d = N →
  Ev (fun k => laws_FnArrayOrbits.l0 k c (toI y) (b : Int) X X (X.length : Int) (q : Int) (toI p)) true
 | 0, q, h => by
  have hXl : X.length = N := by rw [hX]; simp
  exact Ev.step (fun _ => laws_FnArrayOrbits.l0.eq_2 ..) (Qbw (by omega) e)
 | d + 1, q, h => by
  have ih := Qja (c := c) g hb a h0 hN hl hm e X hX d (q + 1) (by omega)
  have hXl : X.length = N := by rw [hX]; simp
  have get : ∀ i, i < N → Qb3 X (i : Int) = toI (iter (rowN p b) i y) := fun i hi => by
   rw [Qlc (by omega)]; simp [hX]
  have ha := Qjs g q a
  have hs := ha.small g
  refine Ev.step (fun _ => laws_FnArrayOrbits.l0.eq_2 ..) (Qw (by omega) (Qw (by omega) (Qw (by omega) ?_)))
  rw [get q (by omega)]
  have en : Int.tmod (wrap64 ((q : Int) + 1)) (X.length : Int) = (((q + 1) % N : Nat) : Int) := by
   rw [Qck (by omega), hXl, Int.tmod_eq_emod_of_nonneg (by omega), Int.natCast_emod]
  have hmod : (q + 1) % N < N := Nat.mod_lt _ h0
  have ev : iter (rowN p b) ((q + 1) % N) y = rowN p b (iter (rowN p b) q y) := by
   rw [← Qhl (rowN p b) q y]
   by_cases c1 : q + 1 = N
   ·
    rw [c1, Nat.mod_self, hl]; rfl
   ·
    rw [Nat.mod_eq_of_lt (by omega)]
  refine Ev.bind (Qgo g hb ha) (Qw rfl (Qbw (by omega) ?_))
  rw [en]
  refine Qw (by omega) (Qw (by omega) ?_)
  rw [get _ hmod, ev]
  refine Ev.bind (Qeo _ (by rw [toI_len, Qga]; omega)) (Qw rfl ?_)
  rw [Qck (by omega)]
  refine Qc5 (fun c2 => ?_) (fun _ => ih)
  have hne : ¬ toI (iter (rowN p b) q y) = toI y := fun e => hm q (by omega) (by omega) (Qfa e)
  have hn := Qjz (toI (iter (rowN p b) q y)) (toI y) (by rw [toI_len]; omega)
  rw [decide_eq_false hne] at hn
  exact Ev.bind hn (Qbw (by simp) ih)
theorem orb_val {p y : List Nat} {c : Nat} (g : Good p) (hc : c ≤ 20) (a : Arr p y c) : Ev (fun k => Q7.f k (toI p) (toI y) (c : Int)) (orbA p c y 999 [toI y] (rowN p c y)) := by
 have hs := a.small g
 have gl := g.le
 have h := Qgt g hc a
 refine Ev.bind (Qdh _ _ _) (Qw h (Qbo (n_eq _) ?_))
 rw [toI_len]
 have hb : Ev (fun k => Qb6.f k (toI (List.range p.length))) (toI (List.range p.length).reverse) := by
  refine Qbo (Qd0 _ (by simp; omega)) (Ev.bind (Qep _ (by simp; omega)) ?_)
  rw [Qfx]; exact Ev.now _
 refine Ev.bind (Qet p.length (by omega)) (Ev.bind hb (Qbo (Qd0 _ (by rw [toI_len]; omega)) ?_))
 refine Ev.step (fun _ => Q7.l0.eq_2 ..) (Qw rfl (Ev.step (fun _ => Q7.j1.eq_2 ..) (Qw rfl (Qbw (by simp) (Qbo (Qd0 _ (by rw [toI_len]; omega)) (Qw (by simp) (Ev.bind (Qfc g hc a) ?_)))))))
 exact Qf7 g hc y 999 [toI y] _ (by simp) (by simp) (a.row g)
theorem pFnArrayOrbits : laws_FnArrayOrbits.Pure := by
 intro l0 l1 h1 h2 hb h3 h4 hb1
 refine Ev.rounds ?_
 obtain ⟨v, hv, hl⟩ := big_eq l0 l1
 cases v with
 | true => exact Qbo hv (Qw rfl (Ev.now _))
 | false =>
  have hl := hl rfl
  have c0 := Qjt hl.1 hb
  have c1 := Qjt hl.2 hb1
  obtain ⟨R, x, b, hR, hx, e⟩ := Qi1 c0
  obtain ⟨r, hr, hs, hi⟩ := Qfh R x b (by omega) (by omega)
  have ej := j2_true c1
  refine Qbo hv (Qbw (by simp) (Ev.bind e (Ev.bind hi (Ev.bind hs (Qbw (by simp) (Ev.bind (Qlg _ hr) (Ev.step (fun _ => laws_FnArrayOrbits.j0.eq_2 ..) (Qbw (by simp) ?_))))))))
  obtain ⟨rows, ok⟩ := r
  cases ok with
  | false => exact Qbw (by simp) ej
  | true =>
   refine Qw rfl ?_
   by_cases ha : Qdv R x b = true
   ·
    obtain ⟨p, y, q, rfl, rfl, rfl, g, hq, a⟩ := Qe5 ha
    have er := Qic hi (orb_val g hq a)
    obtain ⟨N, n0, n1, n2, n3, n4⟩ := Qji 999 1 _ _ rows (by omega) rfl rfl (fun i _ _ => by omega) er.symm
    exact Qja g hq a n0 (by omega) n3 n4 ej rows n2 N 0 (Nat.zero_add _)
   ·
    have er : ((rows, true) : List (List Int) × Bool) = ([], false) := Qic hi (Ev.bind (Qdh _ _ _) (Qbw ha (Ev.now _)))
    injection er with _ e2; cases e2
end Go.Proofs.Ytkgngggppcmpfaa.M
namespace Go.Proofs.Ytkgngggppcmpfaa.Pure
open Go.Proofs.Ytkgngggppcmpfaa.L
theorem FnArrayOrbits : laws_FnArrayOrbits.Pure := Go.Proofs.Ytkgngggppcmpfaa.M.pFnArrayOrbits
end Go.Proofs.Ytkgngggppcmpfaa.Pure
end
section
namespace Go.Proofs.Ytkgngggppcmpfaa.fnArrayOrbits
open Go.ChangeShapes Go.WideShapes Go.ChangeAt Go.RowKit
open Go.ChangeMaps (open_string shut_string)
set_option linter.unusedVariables false
theorem own : ownKnob Try.prog.godebug = none := by kernel_rfl
theorem laidOut : laidOutB Try.prog = true := by kernel_rfl
def IsRow (k : IntKind) (w : World) (a : Option Addr) (len cap : Nat) (zs : List Int) : Prop :=
 (a = none ∧ len = 0 ∧ cap = 0 ∧ zs = []) ∨
 ∃ x, a = some x ∧ len ≤ cap ∧ cap ≤ maxLen ∧ zs.length = cap ∧ (∀ i, i < zs.length → w.cell? (x.add i) = some (.int k (zs.getD i 0))) ∧ ∀ n ∈ zs, (Lit.int k n).wf = true
set_option maxRecDepth 100000 in
theorem lifted (os : Os) (started : os.Started) (H : Type) (enc : TypeId × Value → H) :
  ReturnsInHanded {} Try.checked os 3 .any (Rows.fnArrayOrbitsSpec.pre6 enc Try.prog Try.f3 Rows.fnArrayOrbitsRow.domain false) (Rows.fnArrayOrbitsSpec.post enc Try.prog Try.f3 false true false false) := by
 refine returnsInHanded_of_change_sized (C := Try.checked) own started (by kernel_rfl) Try.func3
  (ChangeSpec.witness6 (enc := enc) (C := Try.checked) false ⟨#[], #[.slice none 0 0, .slice none 0 0], []⟩ 8 (by kernel_rfl) (by kernel_rfl) (by kernel_rfl) (by kernel_rfl)) ?_
 intro W base args ds gs before hval0 hW hcnd hsz0 _
 have hsz : (DataW.weightsEach Try.prog (Try.f3.params.toList ++ Rows.fnArrayOrbitsSpec.plain.varTypes Try.prog) (ds ++ gs)).all (· ≤ reachBytes) = true := hsz0
 have hval : ∀ (j : Nat) t v, Try.f3.params[j]? = some t → args[j]? = some v → Value.okWide Try.prog W .any base t v := hval0
 have hW' := hW
 obtain ⟨p, q, hA0, hV, rfl, hfz, hnd⟩ := hW
 have hA : DataW.TrodAll enc Try.prog W 0 (fun _ => true) true Try.f3.params.toList args.toList ds p := hA0
 rw [Try.params3] at hA hval hsz
 obtain ⟨v0, vs0, d0, ds0, p0, q0, hargs, rfl, rfl, h0, r0⟩ := trodAll_cons hA
 obtain ⟨v1, vs1, d1, ds1, p1, q1, rfl, rfl, rfl, h1, r1⟩ := trodAll_cons r0
 obtain ⟨rfl, rfl, rfl⟩ := trodAll_nil r1
 obtain rfl : args = #[v0, v1] := by cases args; simp_all
 obtain ⟨rfl, rfl⟩ := trodVars_none hV
 obtain ⟨a0, len0, cap0, rfl⟩ := okWide_slice Try.underlying22 (hval 0 22 v0 rfl rfl)
 have k0 := h0
 have lt0 : ∀ x ∈ p0, x.block < W.heap.size := by obtain ⟨m, hm⟩ := k0; exact DataW.trod_lt m _ _ _ hm
 obtain ⟨z0, w0⟩ : ∃ zs, IsRow .u8 W a0 len0 cap0 zs := by
  obtain ⟨fuel, hf⟩ := h0
  rcases open_ints Try.underlying22 Try.underlying5 (by kernel_rfl) hf with ⟨hcs, _⟩ | ⟨x, l, c, zs, hcs, _, hl, hm, hz, _, hcell, hwz⟩
  ·
   simp [Value.cells] at hcs
   obtain ⟨rfl, rfl, rfl⟩ := hcs
   exact ⟨[], .inl ⟨rfl, rfl, rfl, rfl⟩⟩
  ·
   simp [Value.cells] at hcs
   obtain ⟨rfl, rfl, rfl⟩ := hcs
   exact ⟨zs, .inr ⟨_, rfl, hl, hm, by simpa using hz, hcell, hwz⟩⟩
 have y0 : len0 * 1 ≤ 140737488351232 := Go.Proofs.YtkgngggppcmpfaaW.PrintWords.sized_ints hsz (j := 0) (t := 22) rfl rfl Try.underlying22 Try.underlying5 (by kernel_rfl) (by kernel_rfl) h0
 obtain ⟨a1, len1, cap1, rfl⟩ := okWide_slice Try.underlying22 (hval 1 22 v1 rfl rfl)
 have k1 := h1
 have lt1 : ∀ x ∈ p1, x.block < W.heap.size := by obtain ⟨m, hm⟩ := k1; exact DataW.trod_lt m _ _ _ hm
 obtain ⟨z1, w1⟩ : ∃ zs, IsRow .u8 W a1 len1 cap1 zs := by
  obtain ⟨fuel, hf⟩ := h1
  rcases open_ints Try.underlying22 Try.underlying5 (by kernel_rfl) hf with ⟨hcs, _⟩ | ⟨x, l, c, zs, hcs, _, hl, hm, hz, _, hcell, hwz⟩
  ·
   simp [Value.cells] at hcs
   obtain ⟨rfl, rfl, rfl⟩ := hcs
   exact ⟨[], .inl ⟨rfl, rfl, rfl, rfl⟩⟩
  ·
   simp [Value.cells] at hcs
   obtain ⟨rfl, rfl, rfl⟩ := hcs
   exact ⟨zs, .inr ⟨_, rfl, hl, hm, by simpa using hz, hcell, hwz⟩⟩
 have y1 : len1 * 1 ≤ 140737488351232 := Go.Proofs.YtkgngggppcmpfaaW.PrintWords.sized_ints hsz (j := 1) (t := 22) rfl rfl Try.underlying22 Try.underlying5 (by kernel_rfl) (by kernel_rfl) h1
 clear hA0 hval0 hsz0 hsz
 refine (L.laws_FnArrayOrbits.walk Pure.FnArrayOrbits a0 len0 cap0 z0 a1 len1 cap1 z1 W w0 y0 w1 y1).mono fun e W' ⟨he, bel⟩ => ?_
 subst he
 exact ⟨_, rfl, _, _, _, [], _, [], hW', trodAll_mk1 (shut_bool Try.underlying4 _), (trodAll_cons_mk (Below.trod laidOut (by kernel_rfl) (of_decide_eq_true (by kernel_rfl)) k0 bel lt0) (trodAll_cons_mk (Below.trod laidOut (by kernel_rfl) (of_decide_eq_true (by kernel_rfl)) k1 bel lt1) trodAll_mk0)), rfl, bel.frame _, fun h => by cases h⟩
theorem over : Rows.fnArrayOrbitsRow.holds Try.pinned (OpenSpec.ofChange Rows.fnArrayOrbitsSpec) :=
 OpenClaim.holds_of_wide 3 Try.f3 rfl rfl rfl rfl rfl rfl rfl ⟨rfl, rfl, rfl, rfl, rfl⟩ rfl rfl rfl rfl rfl (by kernel_rfl) Try.func3 (by kernel_rfl)
  (of_decide_eq_true (by kernel_rfl)) (by unfold Func.isWrapper; first | (rw [if_pos (by decide +kernel)]; kernel_rfl) | (rw [if_neg (by decide +kernel)]; exact ⟨rfl, rfl⟩))
  (fun os started H enc _ => lifted os started H enc)
theorem proved : Rows.FnArrayOrbitsSaid := over
end Go.Proofs.Ytkgngggppcmpfaa.fnArrayOrbits
namespace Go.Proofs.Ytkgngggppcmpfaa
theorem fnArrayOrbits_holds : Rows.FnArrayOrbitsSaid := fnArrayOrbits.proved
end Go.Proofs.Ytkgngggppcmpfaa
end
