/- Laws about the given program: the law FnRanksMakeRowmotion answers true for every input that its row lets in; no condition is added to the given statement. Contracts of the Go functions that it reaches, and the plain proof over lists. -/
import Derived.Test.YtkgngggppcmpfaaGreatWFnRanksMakeRowmotion0
import Derived.Test.YtkgngggppcmpfaaGreatKFnRanksMakeRowmotion0
import Derived.Test.YtkgngggppcmpfaaGreatKFnRanksMakeRowmotion1
import Derived.Test.YtkgngggppcmpfaaGreatKFnRanksMakeRowmotion2
import Derived.Test.YtkgngggppcmpfaaGreatKFnRanksMakeRowmotion3
import Derived.Test.YtkgngggppcmpfaaGreatKFnRanksMakeRowmotion4
import Derived.Test.YtkgngggppcmpfaaGreatKFnRanksMakeRowmotion5
import Derived.Test.YtkgngggppcmpfaaGreatKFnRanksMakeRowmotion6
import Derived.Test.YtkgngggppcmpfaaGreatKFnRanksMakeRowmotion7
import Derived.Test.YtkgngggppcmpfaaGreatKFnRanksMakeRowmotion8
section
namespace Go.Proofs.YtkgngggppcmpfaaGreat.M
set_option linter.unusedVariables false
open Go.RowKit Go.Proofs.YtkgngggppcmpfaaGreatW.PrintWords Go.Proofs.YtkgngggppcmpfaaGreatW.PrintLast Go.Proofs.YtkgngggppcmpfaaGreatW.PrintMore
def toI (p : List Nat) : List Int := p.map fun (x : Nat) => (x : Int)
@[simp] theorem toI_len (p : List Nat) : (toI p).length = p.length := by simp [toI]
@[simp] theorem toI_nil : toI [] = [] := rfl
theorem Qgh (p q : List Nat) : toI (p ++ q) = toI p ++ toI q := by simp [toI]
theorem Qhj (x : Nat) : toI [x] = [(x : Int)] := rfl
theorem Qki (p : List Nat) (i x : Nat) : (toI p).set i (x : Int) = toI (p.set i x) := by simp [toI, List.map_set]
theorem Qml (n x : Nat) : List.replicate n (x : Int) = toI (List.replicate n x) := by simp [toI]
theorem Qem (p : List Nat) (i : Nat) : rd (toI p) (i : Int) = ((p.getD i 0 : Nat) : Int) := by
 simp only [rd, toI, Int.toNat_natCast, List.getD_eq_getElem?_getD, List.getElem?_map]
 cases p[i]? <;> simp
theorem Qmk {p q : List Nat} (h : toI p = toI q) : p = q := by
 exact (List.map_inj_right (fun a b h => Int.ofNat.inj h)).mp h
def less (p : List Nat) (i : Nat) : Nat := p.getD i 0
theorem Qn2 {p : List Nat} {i : Nat} (h : p.length ≤ i) : less p i = 0 := by simp [less, List.getD_eq_getElem?_getD, h]
theorem Qfa (p : List Nat) (i : Nat) : rd (toI p) (i : Int) = ((less p i : Nat) : Int) := Qem p i
structure Good (p : List Nat) : Prop where
 pos : 1 ≤ p.length
 le : p.length ≤ 10
 lt : ∀ i, i < p.length → less p i < 2 ^ i
 tr : ∀ i, i < p.length → ∀ j, (less p i).testBit j = true → ∀ m, (less p j).testBit m = true → (less p i).testBit m = true
theorem Good.bit {p : List Nat} (g : Good p) {i j : Nat} (h : (less p i).testBit j = true) : j < i ∧ i < p.length := by
 have hi : i < p.length := by
  apply Nat.lt_of_not_le; intro h2; rw [Qn2 h2, Nat.zero_testBit] at h; cases h
 exact ⟨Qfp (g.lt i hi) h, hi⟩
theorem Good.lt10 {p : List Nat} (g : Good p) (i : Nat) : less p i < 2 ^ p.length := by
 by_cases hi : i < p.length
 ·
  exact Nat.lt_of_lt_of_le (g.lt i hi) (Nat.pow_le_pow_right (by decide) (by omega))
 ·
  rw [Qn2 (by omega)]; exact Nat.two_pow_pos _
theorem Good.lt63 {p : List Nat} (g : Good p) (i : Nat) : less p i < 2 ^ 63 := M.lt63 (g.lt10 i) (by have := g.le; omega)
theorem Good.tr' {p : List Nat} (g : Good p) {i j m : Nat} (h1 : (less p i).testBit j = true) (h2 : (less p j).testBit m = true) : (less p i).testBit m = true := g.tr i (g.bit h1).2 j h1 m h2
def okAt (l : List Int) (i : Nat) : Bool := inB (l.getD i 0) 0 ((2 ^ i - 1 : Nat) : Int) && (List.range i).all fun j => !((l.getD i 0).toNat.testBit j) || sd (l.getD j 0).toNat (l.getD i 0).toNat == 0
theorem Qn5 (l : List Int) (i : Nat) : okAt l i = (inB (l.getD i 0) 0 ((2 ^ i - 1 : Nat) : Int) && (List.range i).all fun j => !((l.getD i 0).toNat.testBit j) || sd (l.getD j 0).toNat (l.getD i 0).toNat == 0) := rfl
def Qf0 (l : List Int) : Bool := inB (l.length : Int) 1 10 && (List.range' 0 l.length).all (okAt l)
theorem Qk2 {l : List Int} {i : Nat} (h : okAt l i = true) : ∃ a : Nat, l.getD i 0 = (a : Int) ∧ a < 2 ^ i := by
 simp only [okAt, Bool.and_eq_true, Qe3] at h
 have := Nat.two_pow_pos i
 exact ⟨(l.getD i 0).toNat, by omega, by omega⟩
theorem Qf6 {l : List Int} (h : Qf0 l = true) : ∃ p, l = toI p ∧ Good p := by
 simp only [Qf0, Bool.and_eq_true, Qe3, List.all_eq_true, List.mem_range'_1] at h
 obtain ⟨⟨h1, h2⟩, h3⟩ := h
 have hn : ∀ i, i < l.length → okAt l i = true := fun i hi => h3 i (by omega)
 have e : l = toI (l.map Int.toNat) := by
  apply List.ext_getElem (by simp)
  intro i hi1 hi2
  obtain ⟨a, ha, _⟩ := Qk2 (hn i hi1)
  have hg : l.getD i 0 = l[i] := by simp [List.getD_eq_getElem?_getD, hi1]
  simp only [toI, List.getElem_map]; omega
 refine ⟨l.map Int.toNat, e, ?_⟩
 have hl : ∀ i, less (l.map Int.toNat) i = (l.getD i 0).toNat := by
  intro i
  simp only [less, List.getD_eq_getElem?_getD, List.getElem?_map]
  cases l[i]? <;> simp
 refine ⟨by simp; omega, by simp; omega, fun i hi => ?_, fun i hi j hj m hm => ?_⟩
 ·
  obtain ⟨a, ha, hb⟩ := Qk2 (hn i (by simpa using hi))
  rw [hl, ha]; simpa using hb
 ·
  have hi' : i < l.length := by simpa using hi
  have ho := hn i hi'
  obtain ⟨a, ha, hb⟩ := Qk2 ho
  simp only [okAt, Bool.and_eq_true, List.all_eq_true, List.mem_range, Bool.or_eq_true, Bool.not_eq_true', beq_iff_eq] at ho
  rw [hl] at hj hm ⊢
  have hji : j < i := by rw [ha] at hj; exact Qfp hb (by simpa using hj)
  rcases ho.2 j hji with hz | hz
  ·
   rw [hj] at hz; cases hz
  ·
   exact Qmh.mp hz m hm
theorem Qg0 {p : List Nat} (g : Good p) : Qf0 (toI p) = true := by
 simp only [Qf0, Bool.and_eq_true, Qe3, List.all_eq_true, List.mem_range'_1, toI_len]
 have hl : ∀ i, (toI p).getD i 0 = (less p i : Int) := fun i => by
  have := Qfa p i
  simpa [rd] using this
 have gp := g.pos
 have gl := g.le
 refine ⟨⟨by omega, by omega⟩, fun i hi => ?_⟩
 have hi' : i < p.length := by omega
 have h1 := g.lt i hi'
 simp only [okAt, Bool.and_eq_true, Qe3, List.all_eq_true, List.mem_range, Bool.or_eq_true, Bool.not_eq_true', beq_iff_eq, hl, Int.toNat_natCast]
 refine ⟨⟨by omega, by omega⟩, fun j hj => ?_⟩
 cases hb : (less p i).testBit j
 ·
  exact .inl rfl
 ·
  exact .inr (Qmh.mpr fun m hm => g.tr i hi' j hb m hm)
def Qc8 (m : Nat) : List Nat := (List.range 10).filter fun e => m.testBit e
theorem Qh3 {m e : Nat} : e ∈ Qc8 m ↔ e < 10 ∧ m.testBit e = true := by simp [Qc8]
theorem Qgc (m : Nat) : (Qc8 m).length ≤ 10 := by
 have := List.length_filter_le (fun e => m.testBit e) (List.range 10)
 simpa [Qc8] using this
def Qco {α : Type} (n s : Nat) (f : α → Nat → α) (a : α) : α := (List.range n).foldl (fun a e => if s.testBit e = true then f a e else a) a
theorem Qop {α : Type} (s : Nat) (f : α → Nat → α) (a : α) : (Qc8 s).foldl f a = Qco 10 s f a := by
 unfold Qc8 Qco; rw [List.foldl_filter]
theorem Qha {α : Type} (s : Nat) (f : α → Nat → α) : ∀ (l : List Nat) (a : α), (∀ e ∈ l, s.testBit e = false) → l.foldl (fun a e => if s.testBit e = true then f a e else a) a = a
 | [], _, _ => rfl
 | x :: l, a, h => by
  rw [List.foldl_cons, if_neg (by rw [h x List.mem_cons_self]; simp)]
  exact Qha s f l a fun e he => h e (List.mem_cons_of_mem _ he)
theorem Qoo {α : Type} {n m s : Nat} (f : α → Nat → α) (a : α) (h : s < 2 ^ n) (hm : n ≤ m) : Qco m s f a = Qco n s f a := by
 unfold Qco
 obtain ⟨d, rfl⟩ := Nat.exists_eq_add_of_le hm
 rw [List.range_add, List.foldl_append]
 apply Qha
 intro e he
 simp only [List.mem_map, List.mem_range] at he
 obtain ⟨x, _, rfl⟩ := he
 exact Nat.testBit_lt_two_pow (Nat.lt_of_lt_of_le h (Nat.pow_le_pow_right (by decide) (by omega)))
theorem Qfr {α : Type} {n s : Nat} (f : α → Nat → α) (a : α) (h : s < 2 ^ n) (hn : n ≤ 10) : (Qc8 s).foldl f a = Qco n s f a := by
 rw [Qop, Qoo f a h hn]
theorem Qdu {α : Type} (n s : Nat) (f : α → Nat → α) (a : α) : Qco (n + 1) s f a = if s.testBit n = true then f (Qco n s f a) n else Qco n s f a := by
 unfold Qco; rw [List.range_succ, List.foldl_append]; rfl
theorem Qee {α : Type} (n s : Nat) (f : α → Nat → α) (a : α) (I : α → Prop) (h0 : I a) (h : ∀ a e, I a → e < n → s.testBit e = true → I (f a e)) : I (Qco n s f a) := by
 induction n with
 | zero => exact h0
 | succ n ih =>
  have ih := ih fun a e ha he hs => h a e ha (by omega) hs
  rw [Qdu]
  split
  ·
   exact h _ _ ih (by omega) (by assumption)
  ·
   exact ih
def full (p : List Nat) : Nat := 2 ^ p.length - 1
theorem Qo4 (p : List Nat) : full p < 2 ^ p.length := by have := Nat.two_pow_pos p.length; unfold full; omega
theorem Qnq (p : List Nat) (i : Nat) : (full p).testBit i = decide (i < p.length) := by unfold full; rw [Nat.testBit_two_pow_sub_one]
def Qf5 (p : List Nat) (s : Nat) : Nat := Qco p.length s (fun o e => o ||| less p e) s
theorem close_lt {p : List Nat} (g : Good p) {s : Nat} (h : s < 2 ^ p.length) : Qf5 p s < 2 ^ p.length :=
 Qee _ _ _ _ (· < 2 ^ p.length) h (fun a e ha _ _ => Nat.or_lt_two_pow ha (g.lt10 e))
theorem Qli (p : List Nat) (s a i : Nat) : ∀ n, (Qco n s (fun o e => o ||| less p e) a).testBit i = true ↔ (a.testBit i = true ∨ ∃ e, e < n ∧ s.testBit e = true ∧ (less p e).testBit i = true)
 | 0 => by simp [Qco]
 | n + 1 => by
  rw [Qdu]
  have ih := Qli p s a i n
  split
  ·
   rename_i hs
   rw [Nat.testBit_or, Bool.or_eq_true, ih]
   constructor
   ·
    rintro ((h | ⟨e, h1, h2, h3⟩) | h)
    ·
     exact .inl h
    ·
     exact .inr ⟨e, by omega, h2, h3⟩
    ·
     exact .inr ⟨n, by omega, hs, h⟩
   ·
    rintro (h | ⟨e, h1, h2, h3⟩)
    ·
     exact .inl (.inl h)
    ·
     by_cases he : e = n
     ·
      subst he; exact .inr h3
     ·
      exact .inl (.inr ⟨e, by omega, h2, h3⟩)
  ·
   rename_i hs
   rw [ih]
   constructor
   ·
    rintro (h | ⟨e, h1, h2, h3⟩)
    ·
     exact .inl h
    ·
     exact .inr ⟨e, by omega, h2, h3⟩
   ·
    rintro (h | ⟨e, h1, h2, h3⟩)
    ·
     exact .inl h
    ·
     by_cases he : e = n
     ·
      subst he; exact absurd h2 hs
     ·
      exact .inr ⟨e, by omega, h2, h3⟩
theorem Qjm {p : List Nat} {s i : Nat} (h : s < 2 ^ p.length) : (Qf5 p s).testBit i = true ↔ (s.testBit i = true ∨ ∃ e, s.testBit e = true ∧ (less p e).testBit i = true) := by
 unfold Qf5; rw [Qli]
 constructor
 ·
  rintro (h1 | ⟨e, _, h1⟩)
  ·
   exact .inl h1
  ·
   exact .inr ⟨e, h1⟩
 ·
  rintro (h1 | ⟨e, h1⟩)
  ·
   exact .inl h1
  ·
   exact .inr ⟨e, Qfp h h1.1, h1⟩
def IsId (p : List Nat) (s : Nat) : Prop := s < 2 ^ p.length ∧ ∀ e, s.testBit e = true → ∀ i, (less p e).testBit i = true → s.testBit i = true
def Qel (p : List Nat) (s : Nat) : Bool := (List.range' 0 p.length).all fun e => !(s.testBit e) || sd (less p e) s == 0
theorem Qe7 {p : List Nat} {s : Nat} (h : s < 2 ^ p.length) : Qel p s = true ↔ IsId p s := by
 simp only [Qel, IsId, List.all_eq_true, List.mem_range'_1, Bool.or_eq_true, Bool.not_eq_true', beq_iff_eq, Qmh]
 constructor
 ·
  intro h1
  refine ⟨h, fun e he => ?_⟩
  rcases h1 e ⟨by omega, by have := Qfp h he; omega⟩ with h2 | h2
  ·
   rw [he] at h2; cases h2
  ·
   exact h2
 ·
  rintro ⟨_, h1⟩ e _
  cases he : s.testBit e
  ·
   exact .inl rfl
  ·
   exact .inr (h1 e he)
theorem Qjn {p : List Nat} {s : Nat} (h : s < 2 ^ p.length) : Qf5 p s = s ↔ IsId p s := by
 constructor
 ·
  intro hc
  refine ⟨h, fun e he i hi => ?_⟩
  rw [← hc]; exact (Qjm h).mpr (.inr ⟨e, he, hi⟩)
 ·
  rintro ⟨_, hi⟩
  apply Nat.eq_of_testBit_eq
  intro i
  rw [Bool.eq_iff_iff, Qjm h]
  constructor
  ·
   rintro (h1 | ⟨e, h1, h2⟩)
   ·
    exact h1
   ·
    exact hi e h1 i h2
  ·
   exact .inl
theorem Qmq {p : List Nat} {s : Nat} (h : s < 2 ^ p.length) : (Qf5 p s == s) = Qel p s := by
 rw [Bool.eq_iff_iff, beq_iff_eq, Qjn h, Qe7 h]
end Go.Proofs.YtkgngggppcmpfaaGreat.M
end
section
namespace Go.Proofs.YtkgngggppcmpfaaGreat.M
open Go.RowKit Go.Proofs.YtkgngggppcmpfaaGreatW.PrintWords Go.Proofs.YtkgngggppcmpfaaGreatW.PrintLast Go.Proofs.YtkgngggppcmpfaaGreatW.PrintMore Go.Proofs.YtkgngggppcmpfaaGreat.L
theorem Qim (x lo hi : Int) : Qcz.f x lo hi = some (inB x lo hi) := by
 unfold Qcz.f inB
 by_cases h : lo ≤ x <;> simp [h]
theorem Qh9 (x lo hi : Int) : Qda.f x lo hi = some (inB x lo hi) := by
 unfold Qda.f inB
 by_cases h : lo ≤ x <;> simp [h]
theorem Qn0 (l : List Int) (lo hi : Int) (hl : l.length ≤ 9223372036854775806) : ∀ (d i : Nat), i + d = l.length → Ev (fun k => Qc1.l0 k lo hi l (l.length : Int) i) ((l.drop i).all (inB · lo hi))
 | 0, i, h => by
  refine Ev.step (fun _ => rfl) (Qbh (by omega) ?_)
  rw [List.drop_of_length_le (by omega)]; exact Ev.now _
 | d + 1, i, h => by
  refine Ev.step (fun _ => rfl) (Qh (by omega) (Qh (by omega) (Qh (by omega) (Qbp (Qim _ _ _) ?_))))
  rw [Qgj (by omega : i < l.length), Qb1 (by omega), List.drop_eq_getElem_cons (by omega : i < l.length), List.all_cons]
  refine Qdb (fun e => ?_) (fun e => ?_)
  ·
   rw [e, Bool.true_and]; exact Qn0 l lo hi hl d (i + 1) (by omega)
  ·
   rw [Bool.eq_false_iff.mpr e, Bool.false_and]; exact Ev.now _
theorem Qnz (l : List Int) (lo hi : Int) (hl : l.length ≤ 9223372036854775806) : Ev (fun k => Qc1.f k l lo hi) (l.all (inB · lo hi)) := Qn0 l lo hi hl l.length 0 (by omega)
end Go.Proofs.YtkgngggppcmpfaaGreat.M
end
section
namespace Go.Proofs.YtkgngggppcmpfaaGreat.M
open Go.RowKit Go.Proofs.YtkgngggppcmpfaaGreatW.PrintWords Go.Proofs.YtkgngggppcmpfaaGreatW.PrintLast Go.Proofs.YtkgngggppcmpfaaGreatW.PrintMore Go.Proofs.YtkgngggppcmpfaaGreat.L
set_option linter.unusedVariables false
theorem has_eq {s e : Nat} (hs : s < 2 ^ 63) (he : e ≤ 64) : Qfh.f (s : Int) (e : Int) = some (s.testBit e) := by
 unfold Qfh.f; rw [if_pos (by omega), bit_and hs he]
theorem Qgd {s e : Nat} (he : e ≤ 64) : Qc0.f (s : Int) (e : Int) = some (s.testBit e) := by
 unfold Qc0.f; rw [if_pos (by omega), Qoy he]
theorem Qky (s : Nat) (hs : s < 2 ^ 63) : ∀ (d i : Nat) (acc : List Nat), i + d = 10 → acc.length ≤ i → Ev (fun k => Qbo.l0 k (s : Int) (toI acc) (i : Int)) (toI (acc ++ (List.range' i d).filter fun e => s.testBit e))
 | 0, i, acc, h, ha => by
  refine Ev.step (fun _ => Qbo.l0.eq_2 ..) (Qbh (by omega) ?_)
  simpa using Ev.now _
 | d + 1, i, acc, h, ha => by
  refine Ev.step (fun _ => Qbo.l0.eq_2 ..) (Qh (by omega) (Qbp (has_eq hs (by omega)) ?_))
  rw [Qb1 (by omega), List.range'_succ]
  refine Qdb (fun e => Qh (by rw [toI_len]; omega) ?_) (fun e => ?_)
  ·
   rw [← Qhj, ← Qgh, List.filter_cons_of_pos e]
   have := Qky s hs d (i + 1) (acc ++ [i]) (by omega) (by simp; omega)
   simpa using this
  ·
   rw [List.filter_cons_of_neg e]
   exact Qky s hs d (i + 1) acc (by omega) (by omega)
theorem Qgp {s : Nat} (hs : s < 2 ^ 63) : Ev (fun k => Qbo.f k (s : Int)) (toI (Qc8 s)) := by
 have h := Qky s hs 10 0 [] (by omega) (by simp)
 rw [List.nil_append, ← List.range_eq_range'] at h
 exact h
theorem n_eq (l : List Int) : Qc2.f l = some (l.length : Int) := rfl
theorem Qne {p : List Nat} (h : p.length ≤ 10) : Qdo.f (toI p) = some ((full p : Nat) : Int) := by
 unfold Qdo.f
 rw [n_eq, Option.bind_some, if_pos (by omega), toI_len, Qht (by omega)]; rfl
theorem Qp8 {m i : Nat} (hm : m < 2 ^ i) (hi : i ≤ 10) (g : Nat → Bool) : (Qc8 m).all g = (List.range i).all fun j => !(m.testBit j) || g j := by
 rw [Bool.eq_iff_iff]
 simp only [List.all_eq_true, Qh3, List.mem_range, Bool.or_eq_true, Bool.not_eq_true']
 constructor
 ·
  intro h j hj
  cases hb : m.testBit j
  ·
   exact .inl rfl
  ·
   exact .inr (h j ⟨by omega, hb⟩)
 ·
  rintro h j ⟨_, hb⟩
  rcases h j (Qfp hm hb) with h2 | h2
  ·
   rw [hb] at h2; cases h2
  ·
   exact h2
theorem Qge {i : Nat} (h : i ≤ 10) : 2 ^ i ≤ 1024 := by
 have := Nat.pow_le_pow_right (n := 2) (by decide) h
 simpa using this
theorem Qkf (l : List Int) (i : Nat) : rd l (i : Int) = l.getD i 0 := by simp [rd]
theorem Qlr (l : List Int) (i m : Nat) (R : Bool) (hl : l.length ≤ 10) (hi : i < l.length) (hm : m < 2 ^ i) (ok : ∀ j, j < i → ∃ a : Nat, l.getD j 0 = (a : Int) ∧ a < 2 ^ j)
  (hR : Ev (fun k => Qbj.l0 k l (l.length : Int) ((i + 1 : Nat) : Int) l) R) : ∀ (d q : Nat), q + d = (Qc8 m).length →
  Ev (fun k => Qbj.l1 k (m : Int) l (l.length : Int) (i : Int) (toI (Qc8 m)) ((toI (Qc8 m)).length : Int) (q : Int) l) (((Qc8 m).drop q).all (fun j => sd (l.getD j 0).toNat m == 0) && R)
 | 0, q, h => by
  refine Ev.step (fun _ => Qbj.l1.eq_2 ..) (Qbh (by rw [toI_len]; omega) ?_)
  rw [List.drop_of_length_le (by omega), List.all_nil, Bool.true_and, Qb1 (by omega)]
  exact hR
 | d + 1, q, h => by
  have hq : q < (Qc8 m).length := by omega
  have hj : (Qc8 m)[q] ∈ Qc8 m := List.getElem_mem hq
  obtain ⟨_, hb⟩ := Qh3.mp hj
  have hji := Qfp hm hb
  obtain ⟨a, ha, ha2⟩ := ok _ hji
  have e1 : rd (toI (Qc8 m)) (q : Int) = (((Qc8 m)[q] : Nat) : Int) := by rw [Qem]; simp [List.getD_eq_getElem?_getD, hq]
  have hlen := Qgc m
  have hp1 := Qge (show i ≤ 10 by omega)
  have hp2 := Qge (show (Qc8 m)[q] ≤ 10 by omega)
  refine Ev.step (fun _ => Qbj.l1.eq_2 ..) ?_
  rw [e1]
  refine Qh (by rw [toI_len]; omega) (Qh (by omega) (Qh (by rw [toI_len]; omega) (Qh (by omega) (Qh (by omega) ?_))))
  rw [Qkf, ha, Qfu (lt63 ha2 (by omega)) (lt63 hm (by omega)), Qb1 (by omega), List.drop_eq_getElem_cons hq, List.all_cons, ha, Int.toNat_natCast]
  refine Qdb (fun e => ?_) (fun e => ?_)
  ·
   have e' : sd a m = 0 := by omega
   rw [e', beq_self_eq_true, Bool.true_and]
   exact Qlr l i m R hl hi hm ok hR d (q + 1) (by omega)
  ·
   have e' : (sd a m == 0) = false := by rw [beq_eq_false_iff_ne]; omega
   rw [e', Bool.false_and, Bool.false_and]
   exact Ev.now _
theorem Qlq (l : List Int) (hl : l.length ≤ 10) : ∀ (d i : Nat), i + d = l.length → (∀ j, j < i → ∃ a : Nat, l.getD j 0 = (a : Int) ∧ a < 2 ^ j) →
  Ev (fun k => Qbj.l0 k l (l.length : Int) (i : Int) l) ((List.range' i d).all (okAt l))
 | 0, i, h, ok => by
  refine Ev.step (fun _ => Qbj.l0.eq_2 ..) (Qbh (by omega) ?_)
  exact Ev.now _
 | d + 1, i, h, ok => by
  have hp1 := Qge (show i ≤ 10 by omega)
  have hpos := Nat.two_pow_pos i
  refine Ev.step (fun _ => Qbj.l0.eq_2 ..) (Qh (by omega) (Qh (by omega) (Qh (by omega) (Qbp (Qh9 _ _ _) ?_))))
  rw [Qkf, Qht (by omega), List.range'_succ, List.all_cons, Qn5 l i]
  refine Qdb (fun e => ?_) (fun e => ?_)
  ·
   have b := Qe3.mp e
   obtain ⟨m, hm⟩ : ∃ m : Nat, l.getD i 0 = (m : Int) := ⟨(l.getD i 0).toNat, by omega⟩
   rw [e, Bool.true_and, hm]
   have hm2 : m < 2 ^ i := by omega
   refine Ev.bind (Qgp (lt63 hm2 (by omega))) ?_
   have hnx := Qlq l hl d (i + 1) (by omega) (fun j hj => by
    by_cases hji : j = i
    ·
     subst hji; exact ⟨m, hm, hm2⟩
    ·
     exact ok j (by omega))
   have := Qlr l i m _ hl (by omega) hm2 ok hnx (Qc8 m).length 0 (by omega)
   rw [List.drop_zero, Qp8 hm2 (by omega)] at this
   simpa using this
  ·
   rw [Bool.eq_false_iff.mpr e, Bool.false_and, Bool.false_and]
   exact Ev.now _
theorem Qhb (l : List Int) : Ev (fun k => Qbj.f k l) (Qf0 l) := by
 refine Qbp (n_eq l) (Qbp (Qh9 _ _ _) ?_)
 unfold Qf0
 refine Qdb (fun e => ?_) (fun e => ?_)
 ·
  have b := Qe3.mp e
  rw [e, Bool.true_and]
  exact Qlq l (by omega) l.length 0 (by omega) (fun j hj => by omega)
 ·
  rw [Bool.eq_false_iff.mpr e, Bool.false_and]; exact Ev.now _
theorem Qmy (l : List Int) (i m : Nat) (R : Bool) (hl : l.length ≤ 10) (hi : i < l.length) (hm : m < 2 ^ i) (ok : ∀ j, j < i → ∃ a : Nat, l.getD j 0 = (a : Int) ∧ a < 2 ^ j)
  (hR : Ev (fun k => Qbk.l0 k l (l.length : Int) ((i + 1 : Nat) : Int) l) R) : ∀ (d j : Nat), j + d = i →
  Ev (fun k => Qbk.l1 k (i : Int) (m : Int) (j : Int) l (l.length : Int) (i : Int) l) ((List.range' j d).all (fun j => !(m.testBit j) || sd (l.getD j 0).toNat m == 0) && R)
 | 0, j, h => by
  refine Ev.step (fun _ => Qbk.l1.eq_2 ..) (Qbh (by omega) ?_)
  rw [Qb1 (by omega)]
  simpa using hR
 | d + 1, j, h => by
  obtain ⟨a, ha, ha2⟩ := ok j (by omega)
  have hp1 := Qge (show i ≤ 10 by omega)
  have hp2 := Qge (show j ≤ 10 by omega)
  have ih := Qmy l i m R hl hi hm ok hR d (j + 1) (by omega)
  refine Ev.step (fun _ => Qbk.l1.eq_2 ..) (Qh (by omega) (Qh (by omega) ?_))
  rw [Qb1 (by omega), List.range'_succ, List.all_cons, Qkf, ha, Qfu (lt63 ha2 (by omega)) (lt63 hm (by omega)), Int.toNat_natCast]
  refine Qdb (fun e => ?_) (fun e => ?_)
  ·
   rw [Qkw (by omega)] at e
   rw [e, Bool.not_true, Bool.false_or]
   refine Qh (by omega) (Qdb (fun e => ?_) (fun e => ?_))
   ·
    have e' : sd a m = 0 := by omega
    rw [e', beq_self_eq_true, Bool.true_and]; exact ih
   ·
    have e' : (sd a m == 0) = false := by rw [beq_eq_false_iff_ne]; omega
    rw [e', Bool.false_and, Bool.false_and]; exact Ev.now _
  ·
   rw [Qkw (by omega)] at e
   rw [Bool.eq_false_iff.mpr e, Bool.not_false, Bool.true_or, Bool.true_and]; exact ih
theorem Qmx (l : List Int) (hl : l.length ≤ 10) : ∀ (d i : Nat), i + d = l.length → (∀ j, j < i → ∃ a : Nat, l.getD j 0 = (a : Int) ∧ a < 2 ^ j) →
  Ev (fun k => Qbk.l0 k l (l.length : Int) (i : Int) l) ((List.range' i d).all (okAt l))
 | 0, i, h, ok => by
  refine Ev.step (fun _ => Qbk.l0.eq_2 ..) (Qbh (by omega) ?_)
  exact Ev.now _
 | d + 1, i, h, ok => by
  have hp1 := Qge (show i ≤ 10 by omega)
  have hpos := Nat.two_pow_pos i
  refine Ev.step (fun _ => Qbk.l0.eq_2 ..) (Qh (by omega) (Qh (by omega) (Qh (by omega) (Qbp (Qim _ _ _) ?_))))
  rw [Qkf, Qht (by omega), List.range'_succ, List.all_cons, Qn5 l i]
  refine Qdb (fun e => ?_) (fun e => ?_)
  ·
   have b := Qe3.mp e
   obtain ⟨m, hm⟩ : ∃ m : Nat, l.getD i 0 = (m : Int) := ⟨(l.getD i 0).toNat, by omega⟩
   rw [e, Bool.true_and, hm]
   have hm2 : m < 2 ^ i := by omega
   have hnx := Qmx l hl d (i + 1) (by omega) (fun j hj => by
    by_cases hji : j = i
    ·
     subst hji; exact ⟨m, hm, hm2⟩
    ·
     exact ok j (by omega))
   have := Qmy l i m _ hl (by omega) hm2 ok hnx i 0 (by omega)
   simpa [List.range_eq_range'] using this
  ·
   rw [Bool.eq_false_iff.mpr e, Bool.false_and, Bool.false_and]
   exact Ev.now _
theorem Qfy (l : List Int) : Ev (fun k => Qbk.f k l) (Qf0 l) := by
 refine Qbp (Qim _ _ _) ?_
 unfold Qf0
 refine Qdb (fun e => ?_) (fun e => ?_)
 ·
  have b := Qe3.mp e
  rw [e, Bool.true_and]
  exact Qmx l (by omega) l.length 0 (by omega) (fun j hj => by omega)
 ·
  rw [Bool.eq_false_iff.mpr e, Bool.false_and]; exact Ev.now _
def setB (l : List Int) (s : Int) : Bool := Qf0 l && inB s 0 ((2 ^ l.length - 1 : Nat) : Int)
def idB (l : List Int) (s : Int) : Bool := setB l s && Qel (l.map Int.toNat) s.toNat
theorem Qmi {l : List Int} {s : Int} (h : setB l s = true) : ∃ (p : List Nat) (t : Nat), l = toI p ∧ s = (t : Int) ∧ Good p ∧ t < 2 ^ p.length := by
 simp only [setB, Bool.and_eq_true, Qe3] at h
 obtain ⟨p, rfl, g⟩ := Qf6 h.1
 have := Nat.two_pow_pos p.length
 rw [toI_len] at h
 exact ⟨p, s.toNat, rfl, by omega, g, by omega⟩
theorem Qfm (p : List Nat) : (toI p).map Int.toNat = p := by
 simp only [toI, List.map_map]
 exact (List.map_congr_left (fun x _ => by simp)).trans (List.map_id p)
theorem idB_of {l : List Int} {s : Int} (h : idB l s = true) : ∃ (p : List Nat) (t : Nat), l = toI p ∧ s = (t : Int) ∧ Good p ∧ IsId p t := by
 simp only [idB, Bool.and_eq_true] at h
 obtain ⟨p, t, rfl, rfl, g, ht⟩ := Qmi h.1
 have h2 := h.2
 rw [Qfm, Int.toNat_natCast] at h2
 exact ⟨p, t, rfl, rfl, g, (Qe7 ht).mp h2⟩
theorem setB_mk {p : List Nat} {t : Nat} (g : Good p) (ht : t < 2 ^ p.length) : setB (toI p) (t : Int) = true := by
 simp only [setB, Bool.and_eq_true, Qe3, toI_len]
 exact ⟨Qg0 g, by omega, by omega⟩
theorem Qnv {p : List Nat} {t : Nat} (g : Good p) (ht : IsId p t) : idB (toI p) (t : Int) = true := by
 simp only [idB, Bool.and_eq_true]
 refine ⟨setB_mk g ht.1, ?_⟩
 rw [Qfm, Int.toNat_natCast]; exact (Qe7 ht.1).mpr ht
theorem Good.len63 {p : List Nat} (g : Good p) {s : Nat} (h : s < 2 ^ p.length) : s < 2 ^ 63 := M.lt63 h (by have := g.le; omega)
theorem isSet_ev (l : List Int) (s : Int) : Ev (fun k => Qen.f k l s) (setB l s) := by
 refine Ev.bind (Qhb l) ?_
 unfold setB
 refine Qdb (fun e => ?_) (fun e => ?_)
 ·
  obtain ⟨p, rfl, g⟩ := Qf6 e
  rw [e, Bool.true_and, toI_len]
  exact Qbp (Qne g.le) (Qbp (Qh9 _ _ _) (Ev.now _))
 ·
  rw [Bool.eq_false_iff.mpr e, Bool.false_and]; exact Ev.now _
theorem Qh2 {m q : Nat} (hq : q < (Qc8 m).length) : (Qc8 m)[q] < 10 ∧ m.testBit (Qc8 m)[q] = true := Qh3.mp (List.getElem_mem hq)
theorem Qi8 {m q : Nat} (hq : q < (Qc8 m).length) : rd (toI (Qc8 m)) (q : Int) = (((Qc8 m)[q] : Nat) : Int) := by rw [Qem]; simp [List.getD_eq_getElem?_getD, hq]
theorem Qni {p : List Nat} (g : Good p) (s : Nat) (hs : s < 2 ^ p.length) : ∀ (d q a : Nat), q + d = (Qc8 s).length → a < 2 ^ p.length →
  Ev (fun k => Qbi.l0 k (a : Int) (toI (Qc8 s)) ((toI (Qc8 s)).length : Int) (q : Int) (toI p)) (((((Qc8 s).drop q).foldl (fun o e => o ||| less p e) a : Nat)) : Int)
 | 0, q, a, h, ha => by
  refine Ev.step (fun _ => Qbi.l0.eq_2 ..) (Qbh (by rw [toI_len]; omega) ?_)
  rw [List.drop_of_length_le (by omega)]; exact Ev.now _
 | d + 1, q, a, h, ha => by
  have hq : q < (Qc8 s).length := by omega
  have hm := Qh2 hq
  have hb := Qfp hs hm.2
  have hl := Qgc s
  refine Ev.step (fun _ => Qbi.l0.eq_2 ..) ?_
  rw [Qi8 hq, toI_len, toI_len]
  refine Qh (by omega) (Qh (by omega) (Qh (by omega) (Qh (by omega) (Qh (by omega) ?_))))
  rw [Qfa, Qf9 (g.len63 ha) (g.lt63 _), Qb1 (by omega), List.drop_eq_getElem_cons hq, List.foldl_cons, ← toI_len]
  exact Qni g s hs d (q + 1) _ (by omega) (Nat.or_lt_two_pow ha (g.lt10 _))
theorem Qiz {p : List Nat} (g : Good p) {s : Nat} (hs : s < 2 ^ p.length) : Ev (fun k => Qbi.f k (toI p) (s : Int)) ((Qf5 p s : Nat) : Int) := by
 refine Ev.bind (Qgp (g.len63 hs)) ?_
 have h := Qni g s hs (Qc8 s).length 0 s (by omega) hs
 rw [List.drop_zero, Qfr _ _ hs g.le] at h
 exact h
theorem Qlp (l : List Int) (s : Int) : Ev (fun k => Qdh.f k l s) (idB l s) := by
 refine Ev.bind (isSet_ev l s) ?_
 unfold idB
 refine Qdb (fun e => ?_) (fun e => ?_)
 ·
  obtain ⟨p, t, rfl, rfl, g, ht⟩ := Qmi e
  rw [e, Bool.true_and, Qfm, Int.toNat_natCast, ← Qmq ht]
  refine Ev.bind (Qiz g ht) ?_
  have : (((Qf5 p t : Nat) : Int) == (t : Int)) = (Qf5 p t == t) := by
   rw [Bool.eq_iff_iff, beq_iff_eq, beq_iff_eq]; omega
  rw [this]; exact Ev.now _
 ·
  rw [Bool.eq_false_iff.mpr e, Bool.false_and]; exact Ev.now _
theorem Qk4 (p : List Nat) (s : Int) (h : p.length ≤ 10) : Qep.f (toI p) s = some (inB s 0 ((2 ^ p.length - 1 : Nat) : Int)) := by
 unfold Qep.f; rw [toI_len, Qht (by omega), Qim]; rfl
theorem Qlu {p : List Nat} (g : Good p) (s : Nat) (hs : s < 2 ^ p.length) : ∀ (d i : Nat), i + d = p.length →
  Ev (fun k => Qby.l0 k (s : Int) (toI p) ((toI p).length : Int) (i : Int)) ((List.range' i d).all fun e => !(s.testBit e) || sd (less p e) s == 0)
 | 0, i, h => by
  refine Ev.step (fun _ => Qby.l0.eq_2 ..) (Qbh (by rw [toI_len]; omega) (Ev.now _))
 | d + 1, i, h => by
  have := g.le
  have ih := Qlu g s hs d (i + 1) (by omega)
  refine Ev.step (fun _ => Qby.l0.eq_2 ..) ?_
  refine Qh (by rw [toI_len]; omega) (Qh (by omega) (Qh (by rw [toI_len]; omega) (Qbp (Qgd (by omega)) ?_)))
  rw [Qfa, Qfu (g.lt63 _) (g.len63 hs), Qb1 (by omega), List.range'_succ, List.all_cons]
  refine Qdb (fun e => ?_) (fun e => ?_)
  ·
   rw [e, Bool.not_true, Bool.false_or]
   refine Qdb (fun e => ?_) (fun e => ?_)
   ·
    have e' : sd (less p i) s = 0 := by omega
    rw [e', beq_self_eq_true, Bool.true_and]; exact ih
   ·
    have e' : (sd (less p i) s == 0) = false := by rw [beq_eq_false_iff_ne]; omega
    rw [e', Bool.false_and]; exact Ev.now _
  ·
   rw [Bool.eq_false_iff.mpr e, Bool.not_false, Bool.true_or, Bool.true_and]; exact ih
theorem Qi7 {p : List Nat} (g : Good p) {s : Nat} (hs : s < 2 ^ p.length) : Ev (fun k => Qby.f k (toI p) (s : Int)) (Qel p s) := Qlu g s hs p.length 0 (by omega)
def Ql5 (p : List Nat) (a : List Nat) (i : Nat) : Nat := Qco i (less p i) (fun m e => max m (a.getD e 0 + 1)) 0
def hs (p : List Nat) : Nat → List Nat
 | 0 => []
 | i + 1 => hs p i ++ [Ql5 p (hs p i) i]
theorem Qfv (p : List Nat) : ∀ i, (hs p i).length = i
 | 0 => rfl
 | i + 1 => by simp [hs, Qfv p i]
def ht (p : List Nat) : List Nat := hs p p.length
theorem ht_len (p : List Nat) : (ht p).length = p.length := Qfv p _
def hh (p : List Nat) (i : Nat) : Nat := (ht p).getD i 0
theorem Qln (p : List Nat) : ∀ i e, (hs p i).getD e 0 ≤ e
 | 0, e => by simp [hs]
 | i + 1, e => by
  rw [hs]
  by_cases h : e < i
  ·
   have := Qln p i e
   simpa [List.getD_eq_getElem?_getD, List.getElem?_append_left (by rw [Qfv]; exact h : e < (hs p i).length)] using this
  ·
   by_cases h2 : e = i
   ·
    subst h2
    have : (hs p e ++ [Ql5 p (hs p e) e]).getD e 0 = Ql5 p (hs p e) e := by
     rw [List.getD_eq_getElem?_getD, List.getElem?_append_right (by rw [Qfv]; exact Nat.le_refl _)]
     simp [Qfv]
    rw [this]
    refine Qee _ _ _ _ (· ≤ e) (Nat.zero_le _) (fun a x ha hx _ => ?_)
    have := Qln p e x
    omega
   ·
    rw [List.getD_eq_getElem?_getD, List.getElem?_eq_none (by simp [Qfv]; omega)]
    exact Nat.zero_le _
theorem Qnt (p : List Nat) {i e : Nat} (h : e < i) : (hs p i).getD e 0 = (hs p (e + 1)).getD e 0 := by
 induction i with
 | zero => omega
 | succ i ih =>
  by_cases h2 : e = i
  ·
   subst h2; rfl
  ·
   rw [← ih (by omega), hs]
   simp [List.getD_eq_getElem?_getD, List.getElem?_append_left (by rw [Qfv]; omega : e < (hs p i).length)]
theorem hh_le (p : List Nat) (i : Nat) : hh p i ≤ i := Qln p _ i
theorem hh_step (p : List Nat) {i : Nat} (h : i < p.length) : hh p i = Ql5 p (hs p i) i := by
 unfold hh ht; rw [Qnt p h, hs]
 rw [List.getD_eq_getElem?_getD, List.getElem?_append_right (by rw [Qfv]; exact Nat.le_refl _)]
 simp [Qfv]
theorem Qlh (a : List Nat) (s : Nat) {e : Nat} : ∀ n, e < n → s.testBit e = true → a.getD e 0 + 1 ≤ Qco n s (fun m e => max m (a.getD e 0 + 1)) 0
 | 0, h, _ => by omega
 | n + 1, h, hb => by
  rw [Qdu]
  by_cases h2 : e = n
  ·
   subst h2; rw [if_pos hb]; exact Nat.le_max_right _ _
  ·
   have := Qlh a s n (by omega) hb
   split
   ·
    exact Nat.le_trans this (Nat.le_max_left _ _)
   ·
    exact this
theorem hh_lt {p : List Nat} (g : Good p) {i j : Nat} (h : (less p i).testBit j = true) : hh p j < hh p i := by
 have b := g.bit h
 rw [hh_step p b.2]
 have := Qlh (hs p i) (less p i) i b.1 h
 have e : (hs p i).getD j 0 = hh p j := by unfold hh ht; rw [Qnt p b.1, Qnt p (by omega : j < p.length)]
 rw [e] at this
 exact this
theorem Qlm {a b : List Nat} {e : Nat} (h : e < a.length) : (a ++ b).getD e 0 = a.getD e 0 := by
 simp [List.getD_eq_getElem?_getD, List.getElem?_append_left h]
theorem Qkn {a b : List Nat} {m : Nat} : (a ++ m :: b).getD a.length 0 = m := by
 simp [List.getD_eq_getElem?_getD]
theorem Ql2 {a b : List Nat} {m x : Nat} : (a ++ m :: b).set a.length x = a ++ x :: b := by simp
theorem mx_nat (a b : Nat) : mx (a : Int) (b : Int) = ((max a b : Nat) : Int) := by unfold mx; split <;> omega
theorem Qh1 {p : List Nat} (g : Good p) (i : Nat) (hi : i < p.length) (a z : List Nat) (ha : a.length = i) (hz : i + 1 + z.length = p.length) (hb : ∀ e, a.getD e 0 ≤ e) (r : List Int) : ∀ (d q m : Nat), q + d = (Qc8 (less p i)).length →
  m ≤ i → Ev (fun k => Qq.l0 k (toI (a ++ ((Qc8 (less p i)).drop q).foldl (fun m e => max m (a.getD e 0 + 1)) m :: z)) (toI p) ((toI p).length : Int) ((i + 1 : Nat) : Int)) r →
  Ev (fun k => Qq.l1 k (toI (a ++ m :: z)) (i : Int) (toI p) ((toI p).length : Int) (i : Int) (toI (Qc8 (less p i))) ((toI (Qc8 (less p i))).length : Int) (q : Int)) r
 | 0, q, m, h, hm, c => by
  have := g.le
  refine Ev.step (fun _ => Qq.l1.eq_2 ..) (Qbh (by rw [toI_len]; omega) ?_)
  rw [Qb1 (by omega)]
  rw [List.drop_of_length_le (by omega)] at c; exact c
 | d + 1, q, m, h, hm, c => by
  have gl := g.le
  have hq : q < (Qc8 (less p i)).length := by omega
  have hmm := Qh2 hq
  have hbit := g.bit hmm.2
  have hl := Qgc (less p i)
  have hx := hb (Qc8 (less p i))[q]
  refine Ev.step (fun _ => Qq.l1.eq_2 ..) ?_
  rw [Qi8 hq]
  refine Qh (by rw [toI_len]; omega) (Qh (by omega) (Qh (by rw [toI_len]; omega) (Qh (by omega) (Qh (by rw [toI_len]; simp; omega) (Qh (by omega) (Qh (by rw [toI_len]; simp; omega) ?_))))))
  have e1 : rd (toI (a ++ m :: z)) (i : Int) = (m : Int) := by rw [Qem, ← ha, Qkn]
  have e2 : rd (toI (a ++ m :: z)) (((Qc8 (less p i))[q] : Nat) : Int) = ((a.getD (Qc8 (less p i))[q] 0 : Nat) : Int) := by rw [Qem, Qlm (by omega)]
  rw [e1, e2, Qb1 (by omega), Qb1 (by omega), mx_nat, Int.toNat_natCast, Qki]
  have e3 : ∀ x, (a ++ m :: z).set i x = a ++ x :: z := fun x => by rw [← ha]; exact Ql2
  rw [e3]
  refine Qh1 g i hi a z ha hz hb r d (q + 1) _ (by omega) (by omega) ?_
  rw [List.drop_eq_getElem_cons hq, List.foldl_cons] at c; exact c
theorem Qnu {p : List Nat} {i : Nat} (h : i < p.length) : hs p i ++ List.replicate (p.length - i) 0 = hs p i ++ 0 :: List.replicate (p.length - (i + 1)) 0 := by
 rw [show p.length - i = (p.length - (i + 1)) + 1 by omega, List.replicate_succ]
theorem Qo6 {p : List Nat} {i : Nat} : hs p i ++ Ql5 p (hs p i) i :: List.replicate (p.length - (i + 1)) 0 = hs p (i + 1) ++ List.replicate (p.length - (i + 1)) 0 := by
 rw [hs, List.append_assoc]; rfl
theorem Qil {p : List Nat} (g : Good p) : ∀ (d i : Nat), i + d = p.length → Ev (fun k => Qq.l0 k (toI (hs p i ++ List.replicate (p.length - i) 0)) (toI p) ((toI p).length : Int) (i : Int)) (toI (ht p))
 | 0, i, h => by
  refine Ev.step (fun _ => Qq.l0.eq_2 ..) (Qbh (by rw [toI_len]; omega) ?_)
  obtain rfl : i = p.length := by omega
  rw [Nat.sub_self, List.replicate_zero, List.append_nil]; exact Ev.now _
 | d + 1, i, h => by
  have gl := g.le
  refine Ev.step (fun _ => Qq.l0.eq_2 ..) (Qh (by rw [toI_len]; omega) (Qh (by omega) (Qh (by rw [toI_len]; omega) ?_)))
  rw [Qfa]
  refine Ev.bind (Qgp (g.lt63 _)) ?_
  rw [Qnu (by omega)]
  refine Qh1 g i (by omega) _ _ (Qfv p i) (by rw [List.length_replicate]; omega) (Qln p i) _ _ 0 0 (Nat.zero_add _) (Nat.zero_le _) ?_
  rw [List.drop_zero, Qfr _ _ (g.lt i (by omega)) (by omega)]
  have := Qil g d (i + 1) (by omega)
  rw [← Qo6] at this; exact this
theorem Qgo {p : List Nat} (g : Good p) : Ev (fun k => Qq.f k (toI p)) (toI (ht p)) := by
 have gl := g.le
 refine Qbp (n_eq _) (Qh (by omega) (Qh (by rw [toI_len]; omega) ?_))
 rw [toI_len, Int.toNat_natCast, show (0 : Int) = ((0 : Nat) : Int) from rfl, Qml]
 have := Qil g p.length 0 (by omega)
 simpa [hs] using this
theorem Qp9 (a b : Nat) : Qeh.f (a : Int) (b : Int) = some ((max a b : Nat) : Int) := by
 unfold Qeh.f; split <;> (refine congrArg some ?_; omega)
theorem Qgt {p : List Nat} (g : Good p) (i : Nat) (hi : i < p.length) (a z : List Nat) (ha : a.length = i) (hz : i + 1 + z.length = p.length) (hb : ∀ e, a.getD e 0 ≤ e) (r : List Int) : ∀ (d e m : Nat), e + d = i →
  m ≤ i → Ev (fun k => Qba.l0 k (toI (a ++ (List.range' e d).foldl (fun m e => if (less p i).testBit e = true then max m (a.getD e 0 + 1) else m) m :: z)) (toI p) ((toI p).length : Int) ((i + 1 : Nat) : Int)) r →
  Ev (fun k => Qba.l1 k (toI (a ++ m :: z)) (i : Int) ((less p i : Nat) : Int) (e : Int) (toI p) ((toI p).length : Int) (i : Int)) r
 | 0, e, m, h, hm, c => by
  have := g.le
  refine Ev.step (fun _ => Qba.l1.eq_2 ..) (Qbh (by omega) ?_)
  rw [Qb1 (by omega)]
  exact c
 | d + 1, e, m, h, hm, c => by
  have gl := g.le
  have hx := hb e
  have e1 : rd (toI (a ++ m :: z)) (i : Int) = (m : Int) := by rw [Qem, ← ha, Qkn]
  have e2 : rd (toI (a ++ m :: z)) (e : Int) = ((a.getD e 0 : Nat) : Int) := by rw [Qem, Qlm (by omega)]
  rw [List.range'_succ, List.foldl_cons] at c
  refine Ev.step (fun _ => Qba.l1.eq_2 ..) (Qh (by omega) (Qbp (Qgd (by omega)) (Qdb (fun ht => ?_) (fun ht => ?_))))
  ·
   refine Qh (by omega) (Qh (by rw [toI_len]; simp; omega) (Qh (by omega) (Qh (by rw [toI_len]; simp; omega) ?_)))
   rw [e1, e2, Qb1 (by omega)]
   refine Qbp (Qp9 _ _) ?_
   rw [Int.toNat_natCast, Qki, Qb1 (by omega)]
   have e3 : (a ++ m :: z).set i (max m (a.getD e 0 + 1)) = a ++ max m (a.getD e 0 + 1) :: z := by rw [← ha]; exact Ql2
   rw [e3]
   rw [if_pos ht] at c
   exact Qgt g i hi a z ha hz hb r d (e + 1) _ (by omega) (by omega) c
  ·
   rw [Qb1 (by omega)]
   rw [if_neg ht] at c
   exact Qgt g i hi a z ha hz hb r d (e + 1) _ (by omega) (by omega) c
theorem Qiu {p : List Nat} (g : Good p) : ∀ (d i : Nat), i + d = p.length → Ev (fun k => Qba.l0 k (toI (hs p i ++ List.replicate (p.length - i) 0)) (toI p) ((toI p).length : Int) (i : Int)) (toI (ht p))
 | 0, i, h => by
  refine Ev.step (fun _ => Qba.l0.eq_2 ..) (Qbh (by rw [toI_len]; omega) ?_)
  obtain rfl : i = p.length := by omega
  rw [Nat.sub_self, List.replicate_zero, List.append_nil]; exact Ev.now _
 | d + 1, i, h => by
  have gl := g.le
  refine Ev.step (fun _ => Qba.l0.eq_2 ..) (Qh (by rw [toI_len]; omega) (Qh (by omega) (Qh (by rw [toI_len]; omega) ?_)))
  rw [Qfa, Qnu (by omega)]
  refine Qgt g i (by omega) _ _ (Qfv p i) (by rw [List.length_replicate]; omega) (Qln p i) _ i 0 0 (by omega) (Nat.zero_le _) ?_
  have := Qiu g d (i + 1) (by omega)
  rw [← Qo6] at this
  rw [← List.range_eq_range']; exact this
theorem Qit {p : List Nat} (g : Good p) : Ev (fun k => Qba.f k (toI p)) (toI (ht p)) := by
 have gl := g.le
 refine Qh (by omega) (Qh (by rw [toI_len]; omega) ?_)
 rw [toI_len, Int.toNat_natCast, show (0 : Int) = ((0 : Nat) : Int) from rfl, Qml]
 have := Qiu g p.length 0 (by omega)
 simpa [hs] using this
def covB (p : List Nat) (j i : Nat) : Bool := (less p i).testBit j && (List.range' (j + 1) (i - (j + 1))).all fun k => !((less p i).testBit k && (less p k).testBit j)
def Qe1 (p : List Nat) : List (List Int) := (List.range p.length).flatMap fun j => ((List.range p.length).filter fun i => covB p j i).map fun i => [((j : Nat) : Int), ((i : Nat) : Int)]
theorem Qlj (p : List Nat) (s a i : Nat) : ∀ n, (Qco n s (fun o e => sd o (less p e)) a).testBit i = true ↔ (a.testBit i = true ∧ ∀ e, e < n → s.testBit e = true → (less p e).testBit i = false)
 | 0 => by simp [Qco]
 | n + 1 => by
  rw [Qdu]
  have ih := Qlj p s a i n
  split
  ·
   rename_i hs
   rw [Qhs, Bool.and_eq_true, ih, Bool.not_eq_true']
   constructor
   ·
    rintro ⟨⟨h1, h2⟩, h3⟩
    refine ⟨h1, fun e he hb => ?_⟩
    by_cases c : e = n
    ·
     subst c; exact h3
    ·
     exact h2 e (by omega) hb
   ·
    rintro ⟨h1, h2⟩
    exact ⟨⟨h1, fun e he hb => h2 e (by omega) hb⟩, h2 n (by omega) hs⟩
  ·
   rename_i hs
   rw [ih]
   constructor
   ·
    rintro ⟨h1, h2⟩
    refine ⟨h1, fun e he hb => ?_⟩
    by_cases c : e = n
    ·
     subst c; exact absurd hb hs
    ·
     exact h2 e (by omega) hb
   ·
    rintro ⟨h1, h2⟩
    exact ⟨h1, fun e he hb => h2 e (by omega) hb⟩
def cov (p : List Nat) (i : Nat) : Nat := Qco i (less p i) (fun o e => sd o (less p e)) (less p i)
theorem cov_bit {p : List Nat} (g : Good p) (i j : Nat) : (cov p i).testBit j = covB p j i := by
 unfold cov covB
 rw [Bool.eq_iff_iff, Qlj, Bool.and_eq_true, List.all_eq_true]
 constructor
 ·
  rintro ⟨h1, h2⟩
  refine ⟨h1, fun k hk => ?_⟩
  rw [List.mem_range'_1] at hk
  cases hb : (less p i).testBit k
  ·
   rfl
  ·
   rw [h2 k (by omega) hb]; rfl
 ·
  rintro ⟨h1, h2⟩
  refine ⟨h1, fun k hk hb => ?_⟩
  cases hc : (less p k).testBit j
  ·
   rfl
  ·
   have b := g.bit hc
   have := h2 k (by rw [List.mem_range'_1]; omega)
   rw [hb, hc] at this; cases this
theorem Qlc {p : List Nat} (g : Good p) (s : Nat) (hs : s < 2 ^ p.length) : ∀ (d q a : Nat), q + d = (Qc8 s).length → a < 2 ^ p.length →
  Ev (fun k => Qbs.l0 k (a : Int) (toI (Qc8 s)) ((toI (Qc8 s)).length : Int) (q : Int) (toI p)) (((((Qc8 s).drop q).foldl (fun o e => sd o (less p e)) a : Nat)) : Int)
 | 0, q, a, h, ha => by
  refine Ev.step (fun _ => Qbs.l0.eq_2 ..) (Qbh (by rw [toI_len]; omega) ?_)
  rw [List.drop_of_length_le (by omega)]; exact Ev.now _
 | d + 1, q, a, h, ha => by
  have hq : q < (Qc8 s).length := by omega
  have hm := Qh2 hq
  have hb := Qfp hs hm.2
  have hl := Qgc s
  refine Ev.step (fun _ => Qbs.l0.eq_2 ..) ?_
  rw [Qi8 hq, toI_len, toI_len]
  refine Qh (by omega) (Qh (by omega) (Qh (by omega) (Qh (by omega) (Qh (by omega) ?_))))
  rw [Qfa, Qfu (g.len63 ha) (g.lt63 _), Qb1 (by omega), List.drop_eq_getElem_cons hq, List.foldl_cons, ← toI_len]
  exact Qlc g s hs d (q + 1) _ (by omega) (Qkg _ ha)
theorem Qpp {p : List Nat} (g : Good p) {i : Nat} (hi : i < p.length) : Ev (fun k => Qbs.f k (toI p) (i : Int)) ((cov p i : Nat) : Int) := by
 refine Qh (by omega) (Qh (by rw [toI_len]; omega) ?_)
 rw [Qfa]
 refine Ev.bind (Qgp (g.lt63 i)) ?_
 have h := Qlc g (less p i) (g.lt10 i) _ 0 (less p i) (Nat.zero_add _) (g.lt10 i)
 rw [List.drop_zero, Qfr _ _ (g.lt i hi) (by have := g.le; omega)] at h
 exact h
def Qd1 (p : List Nat) (j i d : Nat) : List (List Int) := ((List.range' i d).filter fun i => covB p j i).map fun i => [((j : Nat) : Int), ((i : Nat) : Int)]
def Qet (p : List Nat) (j d : Nat) : List (List Int) := (List.range' j d).flatMap fun j => Qd1 p j 0 p.length
theorem cov_lt {p : List Nat} (g : Good p) (i : Nat) : cov p i < 2 ^ 63 := g.len63 (Qee _ _ _ _ (· < 2 ^ p.length) (g.lt10 i) (fun a e ha _ _ => Qkg _ ha))
theorem Qg6 {p : List Nat} (g : Good p) (j : Nat) (hj : j < p.length) (r : List (List Int)) : ∀ (d i : Nat) (acc : List (List Int)), i + d = p.length → acc.length + d ≤ 1000 →
  Ev (fun k => Qbe.l0 k (acc ++ Qd1 p j i d) (p.length : Int) ((j + 1 : Nat) : Int) (toI p)) r →
  Ev (fun k => Qbe.l1 k acc (j : Int) (p.length : Int) (j : Int) (p.length : Int) (i : Int) (toI p)) r
 | 0, i, acc, h, ha, c => by
  have gl := g.le
  refine Ev.step (fun _ => Qbe.l1.eq_2 ..) (Qbh (by omega) ?_)
  rw [Qb1 (by omega)]
  simpa [Qd1] using c
 | d + 1, i, acc, h, ha, c => by
  have gl := g.le
  refine Ev.step (fun _ => Qbe.l1.eq_2 ..) (Qh (by omega) (Ev.bind (Qpp g (by omega)) (Qbp (has_eq (cov_lt g i) (by omega)) ?_)))
  rw [cov_bit g, Qb1 (by omega)]
  refine Qdb (fun e => ?_) (fun e => ?_)
  ·
   refine Qh (by omega) (Qg6 g j hj r d (i + 1) _ (by omega) (by simp; omega) ?_)
   rw [List.append_assoc]
   have : Qd1 p j i (d + 1) = [[(j : Int), (i : Int)]] ++ Qd1 p j (i + 1) d := by simp [Qd1, List.range'_succ, e]
   rw [this] at c; exact c
  ·
   refine Qg6 g j hj r d (i + 1) _ (by omega) (by omega) ?_
   have : Qd1 p j i (d + 1) = Qd1 p j (i + 1) d := by simp [Qd1, List.range'_succ, e]
   rw [this] at c; exact c
theorem Qic (p : List Nat) (j i d : Nat) : (Qd1 p j i d).length ≤ d := by
 unfold Qd1
 rw [List.length_map]
 exact Nat.le_trans (List.length_filter_le _ _) (by simp)
theorem Qjc {p : List Nat} (g : Good p) : ∀ (d j : Nat) (acc : List (List Int)), j + d = p.length → acc.length + 10 * d ≤ 100 →
  Ev (fun k => Qbe.l0 k acc (p.length : Int) (j : Int) (toI p)) (acc ++ Qet p j d)
 | 0, j, acc, h, ha => by
  refine Ev.step (fun _ => Qbe.l0.eq_2 ..) (Qbh (by omega) ?_)
  simpa [Qet] using Ev.now acc
 | d + 1, j, acc, h, ha => by
  have gl := g.le
  have := Qic p j 0 p.length
  refine Ev.step (fun _ => Qbe.l0.eq_2 ..) (Qh (by omega) (Qbp (n_eq _) ?_))
  rw [toI_len]
  refine Qg6 g j (by omega) _ p.length 0 acc (by omega) (by omega) ?_
  have ih := Qjc g d (j + 1) (acc ++ Qd1 p j 0 p.length) (by omega) (by simp; omega)
  rw [List.append_assoc] at ih
  have e : Qet p j (d + 1) = Qd1 p j 0 p.length ++ Qet p (j + 1) d := by simp [Qet, List.range'_succ]
  rw [e]; exact ih
theorem Qi3 (p : List Nat) : Qet p 0 p.length = Qe1 p := by unfold Qet Qe1 Qd1; rw [← List.range_eq_range']
theorem Qm7 {p : List Nat} (g : Good p) : Ev (fun k => Qbe.f k (toI p)) (Qe1 p) := by
 have gl := g.le
 refine Qbp (n_eq _) ?_
 rw [toI_len]
 have := Qjc g p.length 0 [] (by omega) (by simp; omega)
 rw [List.nil_append, Qi3] at this; exact this
theorem Ql3 {p : List Nat} (g : Good p) (j i : Nat) (hj : j < p.length) (hi : i < p.length) : ∀ (d k : Nat), k + d = i → Ev (fun n => Qcb.l0 n (j : Int) (i : Int) (k : Int) (toI p)) ((List.range' k d).all fun k => !((less p i).testBit k && (less p k).testBit j))
 | 0, k, h => by
  refine Ev.step (fun _ => Qcb.l0.eq_2 ..) (Qbh (by omega) ?_)
  simpa using Ev.now true
 | d + 1, k, h => by
  have gl := g.le
  have ih := Ql3 g j i hj hi d (k + 1) (by omega)
  refine Ev.step (fun _ => Qcb.l0.eq_2 ..) (Qh (by omega) (Qh (by omega) (Qh (by rw [toI_len]; omega) ?_)))
  rw [Qfa, Qb1 (by omega), List.range'_succ, List.all_cons]
  refine Qbp (Qgd (by omega)) (Qdb (fun e => ?_) (fun e => ?_))
  ·
   rw [e, Bool.true_and]
   refine Qh (by omega) (Qh (by rw [toI_len]; omega) ?_)
   rw [Qfa]
   refine Qbp (Qgd (by omega)) (Qdb (fun e2 => ?_) (fun e2 => ?_))
   ·
    rw [e2]; exact Ev.now _
   ·
    rw [Bool.eq_false_iff.mpr e2, Bool.not_false, Bool.true_and]; exact ih
  ·
   rw [Bool.eq_false_iff.mpr e, Bool.false_and, Bool.not_false, Bool.true_and]; exact ih
theorem Qpx {p : List Nat} (g : Good p) {j i : Nat} (hj : j < p.length) (hi : i < p.length) : Ev (fun k => Qcb.f k (toI p) (j : Int) (i : Int)) (covB p j i) := by
 have gl := g.le
 refine Qh (by omega) (Qh (by rw [toI_len]; omega) ?_)
 rw [Qfa]
 unfold covB
 refine Qbp (Qgd (by omega)) (Qdb (fun e => ?_) (fun e => ?_))
 ·
  rw [e, Bool.true_and, Qb1 (by omega)]
  have b := g.bit e
  by_cases hji : j + 1 ≤ i
  ·
   exact Ql3 g j i hj hi _ (j + 1) (by omega)
  ·
   omega
 ·
  rw [Bool.eq_false_iff.mpr e, Bool.false_and]; exact Ev.now _
theorem Qhu {p : List Nat} (g : Good p) (j : Nat) (hj : j < p.length) (r : List (List Int)) : ∀ (d i : Nat) (acc : List (List Int)), i + d = p.length → acc.length + d ≤ 1000 →
  Ev (fun k => Qbn.l0 k (acc ++ Qd1 p j i d) (p.length : Int) ((j + 1 : Nat) : Int) (toI p)) r →
  Ev (fun k => Qbn.l1 k acc (j : Int) (p.length : Int) (j : Int) (p.length : Int) (i : Int) (toI p)) r
 | 0, i, acc, h, ha, c => by
  have gl := g.le
  refine Ev.step (fun _ => Qbn.l1.eq_2 ..) (Qbh (by omega) ?_)
  rw [Qb1 (by omega)]
  simpa [Qd1] using c
 | d + 1, i, acc, h, ha, c => by
  have gl := g.le
  refine Ev.step (fun _ => Qbn.l1.eq_2 ..) (Qh (by omega) (Ev.bind (Qpx g hj (by omega)) ?_))
  rw [Qb1 (by omega)]
  refine Qdb (fun e => ?_) (fun e => ?_)
  ·
   refine Qh (by omega) (Qhu g j hj r d (i + 1) _ (by omega) (by simp; omega) ?_)
   rw [List.append_assoc]
   have : Qd1 p j i (d + 1) = [[(j : Int), (i : Int)]] ++ Qd1 p j (i + 1) d := by simp [Qd1, List.range'_succ, e]
   rw [this] at c; exact c
  ·
   refine Qhu g j hj r d (i + 1) _ (by omega) (by omega) ?_
   have : Qd1 p j i (d + 1) = Qd1 p j (i + 1) d := by simp [Qd1, List.range'_succ, e]
   rw [this] at c; exact c
theorem Qj3 {p : List Nat} (g : Good p) : ∀ (d j : Nat) (acc : List (List Int)), j + d = p.length → acc.length + 10 * d ≤ 100 →
  Ev (fun k => Qbn.l0 k acc (p.length : Int) (j : Int) (toI p)) (acc ++ Qet p j d)
 | 0, j, acc, h, ha => by
  refine Ev.step (fun _ => Qbn.l0.eq_2 ..) (Qbh (by omega) ?_)
  simpa [Qet] using Ev.now acc
 | d + 1, j, acc, h, ha => by
  have gl := g.le
  have := Qic p j 0 p.length
  refine Ev.step (fun _ => Qbn.l0.eq_2 ..) (Qh (by omega) ?_)
  rw [toI_len]
  refine Qhu g j (by omega) _ p.length 0 acc (by omega) (by omega) ?_
  have ih := Qj3 g d (j + 1) (acc ++ Qd1 p j 0 p.length) (by omega) (by simp; omega)
  rw [List.append_assoc] at ih
  have e : Qet p j (d + 1) = Qd1 p j 0 p.length ++ Qet p (j + 1) d := by simp [Qet, List.range'_succ]
  rw [e]; exact ih
theorem Qol {p : List Nat} (g : Good p) : Ev (fun k => Qbn.f k (toI p)) (Qe1 p) := by
 have gl := g.le
 unfold Qbn.f
 rw [toI_len]
 have := Qj3 g p.length 0 [] (by omega) (by simp; omega)
 rw [List.nil_append, Qi3] at this; exact this
theorem Qju {p : List Nat} {c : List Int} (h : c ∈ Qe1 p) : ∃ j i : Nat, c = [((j : Nat) : Int), ((i : Nat) : Int)] ∧ j < p.length ∧ i < p.length ∧ covB p j i = true := by
 unfold Qe1 at h
 simp only [List.mem_flatMap, List.mem_range, List.mem_map, List.mem_filter] at h
 obtain ⟨j, hj, i, ⟨hi, hc⟩, rfl⟩ := h
 exact ⟨j, i, rfl, hj, hi, hc⟩
theorem Qmu {p : List Nat} (g : Good p) : (Qe1 p).length ≤ 100 := by
 have gl := g.le
 have : ∀ (d j : Nat), (Qet p j d).length ≤ 10 * d := by
  intro d
  induction d with
  | zero => intro j; simp [Qet]
  | succ d ih =>
   intro j
   have e : Qet p j (d + 1) = Qd1 p j 0 p.length ++ Qet p (j + 1) d := by simp [Qet, List.range'_succ]
   rw [e, List.length_append]
   have := Qic p j 0 p.length
   have := ih (j + 1)
   omega
 rw [← Qi3]
 have := this p.length 0
 omega
def Qdk (p : List Nat) : Bool := (Qe1 p).all fun c => rd (toI (ht p)) (rd c 1) == rd (toI (ht p)) (rd c 0) + 1
theorem Qkq {p : List Nat} (g : Good p) : ∀ (d q : Nat), q + d = (Qe1 p).length → Ev (fun k => Qb8.l0 k (toI (ht p)) (Qe1 p) ((Qe1 p).length : Int) (q : Int)) (((Qe1 p).drop q).all fun c => rd (toI (ht p)) (rd c 1) == rd (toI (ht p)) (rd c 0) + 1)
 | 0, q, h => by
  refine Ev.step (fun _ => Qb8.l0.eq_2 ..) (Qbh (by omega) ?_)
  rw [List.drop_of_length_le (by omega)]; exact Ev.now _
 | d + 1, q, h => by
  have gl := g.le
  have hp := Qmu g
  have hq : q < (Qe1 p).length := by omega
  have er : Qbq (Qe1 p) (q : Int) = (Qe1 p)[q] := by simp [Qbq, List.getD_eq_getElem?_getD, hq]
  obtain ⟨j, i, e, hj, hi, hc⟩ := Qju (List.getElem_mem hq)
  have e0 : rd (Qe1 p)[q] 0 = (j : Int) := by rw [e]; rfl
  have e1 : rd (Qe1 p)[q] 1 = (i : Int) := by rw [e]; rfl
  have el : (Qe1 p)[q].length = 2 := by rw [e]; rfl
  have b0 := hh_le p j
  refine Ev.step (fun _ => Qb8.l0.eq_2 ..) (Qh (by omega) (Qh (by omega) (Qh (by omega) ?_)))
  have ih := Qkq g d (q + 1) (by omega)
  have hj' : rd (toI (ht p)) (j : Int) = ((hh p j : Nat) : Int) := Qem _ _
  rw [er, e0, e1, el, List.drop_eq_getElem_cons hq, List.all_cons, e0, e1, Qb1 (by omega), toI_len, ht_len, hj', Qb1 (by omega)]
  refine Qh (by omega) (Qh (by omega) (Qh (by omega) (Qh (by omega) (Qh (by omega) (Qh (by omega) (Qdb (fun e => ?_) (fun e => ?_)))))))
  ·
   have e' : (rd (toI (ht p)) (i : Int) == ((hh p j : Nat) : Int) + 1) = true := by rw [beq_iff_eq, e]; rfl
   rw [e', Bool.true_and]; exact ih
  ·
   have e' : (rd (toI (ht p)) (i : Int) == ((hh p j : Nat) : Int) + 1) = false := by rw [beq_eq_false_iff_ne]; exact e
   rw [e', Bool.false_and]; exact Ev.now _
theorem Qie {p : List Nat} (g : Good p) : Ev (fun k => Qb8.f k (toI p)) (Qdk p) :=
 Ev.bind (Qit g) (Ev.bind (Qol g) (Qkq g _ 0 (Nat.zero_add _)))
def rgB (l : List Int) : Bool := Qf0 l && Qdk (l.map Int.toNat)
theorem Qgg (l : List Int) : Ev (fun k => Qc3.f k l) (rgB l) := by
 refine Ev.bind (Qfy l) ?_
 unfold rgB
 refine Qdb (fun e => ?_) (fun e => ?_)
 ·
  obtain ⟨p, rfl, g⟩ := Qf6 e
  rw [e, Bool.true_and, Qfm]
  exact Ev.bind (Qie g) (Ev.now _)
 ·
  rw [Bool.eq_false_iff.mpr e, Bool.false_and]; exact Ev.now _
theorem Qoq {p : List Nat} (g : Good p) : Qcf.ok (toI (ht p)) (Qe1 p) = true := by
 unfold Qcf.ok
 have := Qmu g
 rw [Bool.and_eq_true, decide_eq_true_eq, List.all_eq_true]
 refine ⟨by omega, fun c hc => ?_⟩
 obtain ⟨j, i, rfl, hj, hi, _⟩ := Qju hc
 have e0 : rd [((j : Nat) : Int), ((i : Nat) : Int)] 0 = (j : Int) := rfl
 have e1 : rd [((j : Nat) : Int), ((i : Nat) : Int)] 1 = (i : Int) := rfl
 rw [e0, e1, toI_len, ht_len]
 simp only [Bool.and_eq_true, decide_eq_true_eq]
 exact ⟨⟨⟨⟨rfl, by omega⟩, by omega⟩, by omega⟩, by omega⟩
theorem Qnx {p : List Nat} (g : Good p) : (!((Qe1 p).any (Qcf.p (toI (ht p))))) = Qdk p := by
 unfold Qdk
 rw [Bool.eq_iff_iff, Bool.not_eq_true', List.any_eq_false, List.all_eq_true]
 refine forall_congr' fun c => forall_congr' fun hc => ?_
 obtain ⟨j, i, rfl, hj, hi, _⟩ := Qju hc
 have e0 : rd [((j : Nat) : Int), ((i : Nat) : Int)] 0 = (j : Int) := rfl
 have hj' : rd (toI (ht p)) (j : Int) = ((hh p j : Nat) : Int) := Qem _ _
 have b0 := hh_le p j
 have gl := g.le
 unfold Qcf.p
 rw [e0, hj', Qb1 (by omega), Int.natCast_succ, bne_iff_ne, ne_eq, Classical.not_not, beq_iff_eq]
theorem Qom (l : List Int) : Ev (fun k => Qcf.f k l) (rgB l, Qf0 l) := by
 refine Ev.bind (Qhb l) ?_
 unfold rgB
 refine Qdb (fun e => ?_) (fun e => ?_)
 ·
  obtain ⟨p, rfl, g⟩ := Qf6 e
  rw [e, Bool.true_and, Qfm]
  refine Ev.bind (Qgo g) (Ev.bind (Qm7 g) (Qh (Qoq g) ?_))
  rw [Qnx g]; exact Ev.now _
 ·
  rw [Bool.eq_false_iff.mpr e, Bool.false_and]; exact Ev.now _
theorem Qfi (l : List Int) : Ev (fun k => Qc4.f k l) (rgB l) := Ev.bind (Qom l) (Ev.now _)
theorem Qj0 {l : List Int} (h : rgB l = true) : ∃ p, l = toI p ∧ Good p ∧ Qdk p = true := by
 unfold rgB at h
 rw [Bool.and_eq_true] at h
 obtain ⟨p, rfl, g⟩ := Qf6 h.1
 exact ⟨p, rfl, g, by rw [Qfm] at h; exact h.2⟩
theorem Qlz {p : List Nat} (g : Good p) (h : Qdk p = true) : rgB (toI p) = true := by
 unfold rgB; rw [Qg0 g, Qfm, h]; rfl
end Go.Proofs.YtkgngggppcmpfaaGreat.M
end
section
namespace Go.Proofs.YtkgngggppcmpfaaGreat.L
open Go.RowKit Go.Proofs.YtkgngggppcmpfaaGreatW.PrintWords Go.Proofs.YtkgngggppcmpfaaGreatW.PrintLast Go.Proofs.YtkgngggppcmpfaaGreatW.PrintMore Go.Proofs.YtkgngggppcmpfaaGreat.X
attribute [local go_sem] Q2 Q4 Qbb Qbc Qt Qu Q3 Q5
set_option linter.unusedVariables false
set_option linter.unusedSimpArgs false
end Go.Proofs.YtkgngggppcmpfaaGreat.L
end
section
namespace Go.Proofs.YtkgngggppcmpfaaGreat.M
open Go.RowKit Go.Proofs.YtkgngggppcmpfaaGreatW.PrintWords Go.Proofs.YtkgngggppcmpfaaGreatW.PrintLast Go.Proofs.YtkgngggppcmpfaaGreatW.PrintMore Go.Proofs.YtkgngggppcmpfaaGreat.L
set_option linter.unusedVariables false
def tg (p : List Nat) (s e : Nat) : Nat := if Qel p (s ^^^ 2 ^ e) = true then s ^^^ 2 ^ e else s
theorem Qf2 {p : List Nat} {e : Nat} (h : e < p.length) : 2 ^ e < 2 ^ p.length := Nat.pow_lt_pow_right (by decide) h
theorem tg_lt {p : List Nat} {s e : Nat} (hs : s < 2 ^ p.length) (h : e < p.length) : tg p s e < 2 ^ p.length := by
 unfold tg; split
 ·
  exact Nat.xor_lt_two_pow hs (Qf2 h)
 ·
  exact hs
theorem Qgy {p : List Nat} {s e : Nat} (hs : IsId p s) (h : e < p.length) : IsId p (tg p s e) := by
 unfold tg; split
 ·
  rename_i h2; exact (Qe7 (Nat.xor_lt_two_pow hs.1 (Qf2 h))).mp h2
 ·
  exact hs
theorem Qqk {p : List Nat} (g : Good p) {s e : Nat} (hs : s < 2 ^ p.length) (he : e < p.length) : Ev (fun k => Qcu.f k (toI p) (s : Int) (e : Int)) ((tg p s e : Nat) : Int) := by
 have gl := g.le
 have hx := Nat.xor_lt_two_pow hs (Qf2 he)
 refine Qh (by omega) ?_
 rw [Qf3 (by omega), Qnf (g.len63 hs) (g.len63 (Qf2 he))]
 refine Ev.bind (Qiz g hx) ?_
 unfold tg
 rw [← Qmq hx]
 refine Qdb (fun e => ?_) (fun e => ?_)
 ·
  rw [if_pos (by rw [beq_iff_eq]; omega)]; exact Ev.now _
 ·
  rw [if_neg (by rw [beq_iff_eq]; omega)]; exact Ev.now _
theorem tgAt_ev {p : List Nat} (g : Good p) {s e : Nat} (hs : s < 2 ^ p.length) (he : e < p.length) : Ev (fun k => Qez.f k (toI p) (s : Int) (e : Int)) ((tg p s e : Nat) : Int) := by
 have gl := g.le
 have hx := Nat.xor_lt_two_pow hs (Qf2 he)
 refine Qh (by omega) ?_
 rw [Qf3 (by omega), Qnf (g.len63 hs) (g.len63 (Qf2 he))]
 refine Ev.bind (Qi7 g hx) ?_
 unfold tg
 refine Qdb (fun e => ?_) (fun e => ?_)
 ·
  rw [if_pos e]; exact Ev.now _
 ·
  rw [if_neg e]; exact Ev.now _
theorem Ql7 {p : List Nat} (g : Good p) (w : List Nat) (hw : ∀ e ∈ w, e < p.length) (hl : w.length ≤ 100000) : ∀ (d q s : Nat), q + d = w.length → s < 2 ^ p.length →
  Ev (fun k => Qbu.l0 k (s : Int) (toI w) ((toI w).length : Int) (q : Int) (toI p)) ((((w.drop q).foldl (tg p) s : Nat)) : Int)
 | 0, q, s, h, hs => by
  refine Ev.step (fun _ => Qbu.l0.eq_2 ..) (Qbh (by rw [toI_len]; omega) ?_)
  rw [List.drop_of_length_le (by omega)]; exact Ev.now _
 | d + 1, q, s, h, hs => by
  have hq : q < w.length := by omega
  have he := hw _ (List.getElem_mem hq)
  have er : rd (toI w) (q : Int) = ((w[q] : Nat) : Int) := by rw [Qem]; simp [List.getD_eq_getElem?_getD, hq]
  refine Ev.step (fun _ => Qbu.l0.eq_2 ..) (Qh (by rw [toI_len]; omega) (Qh (by omega) (Qh (by rw [toI_len]; omega) ?_)))
  rw [er, List.drop_eq_getElem_cons hq, List.foldl_cons, Qb1 (by omega)]
  exact Ev.bind (Qqk g hs he) (Ql7 g w hw hl d (q + 1) _ (by omega) (tg_lt hs he))
theorem Qpz {p : List Nat} (g : Good p) (w : List Nat) (hw : ∀ e ∈ w, e < p.length) (hl : w.length ≤ 100000) {s : Nat} (hs : s < 2 ^ p.length) : Ev (fun k => Qbu.f k (toI p) (s : Int) (toI w)) (((w.foldl (tg p) s : Nat)) : Int) := by
 have := Ql7 g w hw hl w.length 0 s (by omega) hs
 rwa [List.drop_zero] at this
theorem Qpm (s e i : Nat) : (s ^^^ 2 ^ e).testBit i = (s.testBit i ^^ decide (e = i)) := by rw [Nat.testBit_xor, Nat.testBit_two_pow]
theorem Qft {s e i : Nat} (h : e ≠ i) : (s ^^^ 2 ^ e).testBit i = s.testBit i := by rw [Qpm]; simp [h]
theorem Qj6 (s e : Nat) : (s ^^^ 2 ^ e).testBit e = !s.testBit e := by rw [Qpm]; simp
def Can (p : List Nat) (s e : Nat) : Prop := (s.testBit e = true → ∀ f, s.testBit f = true → (less p f).testBit e = false) ∧ (s.testBit e = false → ∀ f, (less p e).testBit f = true → s.testBit f = true)
theorem Qii {p : List Nat} (g : Good p) {s e : Nat} (hs : IsId p s) (he : e < p.length) : Qel p (s ^^^ 2 ^ e) = true ↔ Can p s e := by
 rw [Qe7 (Nat.xor_lt_two_pow hs.1 (Qf2 he))]
 constructor
 ·
  rintro ⟨_, h⟩
  refine ⟨fun h1 f hf => ?_, fun h1 f hf => ?_⟩
  ·
   apply Bool.eq_false_iff.mpr
   intro hc
   have b := g.bit hc
   have := h f (by rw [Qft (by omega)]; exact hf) e hc
   rw [Qj6, h1] at this; cases this
  ·
   have b := g.bit hf
   have := h e (by rw [Qj6, h1]; rfl) f hf
   rwa [Qft (by omega)] at this
 ·
  rintro ⟨h1, h2⟩
  refine ⟨Nat.xor_lt_two_pow hs.1 (Qf2 he), fun f hf i hi => ?_⟩
  have b := g.bit hi
  by_cases c : e = f
  ·
   subst c
   rw [Qj6, Bool.not_eq_true'] at hf
   rw [Qft (by omega)]
   exact h2 hf i hi
  ·
   rw [Qft c] at hf
   have hsi := hs.2 f hf i hi
   by_cases c2 : e = i
   ·
    subst c2
    rw [h1 hsi f hf] at hi; cases hi
   ·
    rw [Qft c2]; exact hsi
theorem tg_ne {p : List Nat} {s e i : Nat} (h : e ≠ i) : (tg p s e).testBit i = s.testBit i := by
 unfold tg; split
 ·
  exact Qft h
 ·
  rfl
theorem tg_eq {p : List Nat} (g : Good p) {s e : Nat} (hs : IsId p s) (he : e < p.length) : (tg p s e).testBit e = true ↔ (s.testBit e = true ∧ ∃ f, s.testBit f = true ∧ (less p f).testBit e = true) ∨ (s.testBit e = false ∧ ∀ f, (less p e).testBit f = true → s.testBit f = true) := by
 have hc := Qii g hs he
 unfold tg
 cases hb : s.testBit e
 ·
  by_cases c : Qel p (s ^^^ 2 ^ e) = true
  ·
   rw [if_pos c, Qj6, hb]
   exact ⟨fun _ => .inr ⟨rfl, (hc.mp c).2 hb⟩, fun _ => rfl⟩
  ·
   rw [if_neg c, hb]
   refine ⟨fun h => (by cases h), fun h => ?_⟩
   rcases h with h | h
   ·
    cases h.1
   ·
    exact absurd (hc.mpr ⟨fun h1 => (by rw [hb] at h1; cases h1), fun _ => h.2⟩) c
 ·
  by_cases c : Qel p (s ^^^ 2 ^ e) = true
  ·
   rw [if_pos c, Qj6, hb]
   refine ⟨fun h => (by cases h), fun h => ?_⟩
   rcases h with ⟨_, f, hf, hl⟩ | h
   ·
    rw [(hc.mp c).1 hb f hf] at hl; cases hl
   ·
    cases h.1
  ·
   rw [if_neg c, hb]
   refine ⟨fun _ => .inl ⟨rfl, ?_⟩, fun _ => rfl⟩
   apply Classical.byContradiction
   intro hn
   refine c (hc.mpr ⟨fun _ f hf => ?_, fun h => by rw [hb] at h; cases h⟩)
   apply Bool.eq_false_iff.mpr
   intro hl
   exact hn ⟨f, hf, hl⟩
def bot (p : List Nat) (u : Nat) : Nat := Qco p.length u (fun o e => if less p e &&& u = 0 then o ||| 2 ^ e else o) 0
theorem Qku {a b : Nat} : a &&& b = 0 ↔ ∀ i, a.testBit i = true → b.testBit i = false := by
 constructor
 ·
  intro h i hi
  have : (a &&& b).testBit i = false := by rw [h, Nat.zero_testBit]
  rw [Nat.testBit_and, hi, Bool.true_and] at this; exact this
 ·
  intro h
  apply Nat.eq_of_testBit_eq
  intro i
  rw [Nat.testBit_and, Nat.zero_testBit]
  cases ha : a.testBit i
  ·
   rfl
  ·
   rw [h i ha]; rfl
theorem Qib (c : Nat → Prop) [DecidablePred c] (u a i : Nat) : ∀ n, (Qco n u (fun o e => if c e then o ||| 2 ^ e else o) a).testBit i = true ↔ (a.testBit i = true ∨ (i < n ∧ u.testBit i = true ∧ c i))
 | 0 => by simp [Qco]
 | n + 1 => by
  rw [Qdu]
  have ih := Qib c u a i n
  by_cases hu : u.testBit n = true
  ·
   rw [if_pos hu]
   by_cases hc : c n
   ·
    rw [if_pos hc, Nat.testBit_or, Bool.or_eq_true, ih, Nat.testBit_two_pow, decide_eq_true_eq]
    constructor
    ·
     rintro ((h | ⟨h1, h2⟩) | h)
     ·
      exact .inl h
     ·
      exact .inr ⟨by omega, h2⟩
     ·
      subst h; exact .inr ⟨by omega, hu, hc⟩
    ·
     rintro (h | ⟨h1, h2⟩)
     ·
      exact .inl (.inl h)
     ·
      by_cases e : n = i
      ·
       exact .inr e
      ·
       exact .inl (.inr ⟨by omega, h2⟩)
   ·
    rw [if_neg hc, ih]
    refine or_congr_right ⟨fun h => ⟨by omega, h.2⟩, fun h => ⟨?_, h.2⟩⟩
    have : i ≠ n := fun e => by subst e; exact hc h.2.2
    omega
  ·
   rw [if_neg hu, ih]
   refine or_congr_right ⟨fun h => ⟨by omega, h.2⟩, fun h => ⟨?_, h.2⟩⟩
   have : i ≠ n := fun e => by subst e; exact hu h.2.1
   omega
theorem bot_bit {p : List Nat} {u : Nat} (hu : u < 2 ^ p.length) (i : Nat) : (bot p u).testBit i = true ↔ u.testBit i = true ∧ ∀ j, (less p i).testBit j = true → u.testBit j = false := by
 unfold bot
 rw [Qib (fun e => less p e &&& u = 0), Nat.zero_testBit]
 constructor
 ·
  rintro (h | ⟨h1, h2, h3⟩)
  ·
   cases h
  ·
   exact ⟨h2, Qku.mp h3⟩
 ·
  rintro ⟨h1, h2⟩
  exact .inr ⟨Qfp hu h1, h1, Qku.mpr h2⟩
theorem put_lt {n : Nat} (c : Nat → Prop) [DecidablePred c] (u : Nat) : Qco n u (fun o e => if c e then o ||| 2 ^ e else o) 0 < 2 ^ n :=
 Qee _ _ _ _ (· < 2 ^ n) (Nat.two_pow_pos _) (fun a e ha he _ => by
  split
  ·
   exact Nat.or_lt_two_pow ha (Nat.pow_lt_pow_right (by decide) he)
  ·
   exact ha)
theorem Qng {p : List Nat} (u : Nat) : bot p u < 2 ^ p.length := put_lt _ u
def row (p : List Nat) (s : Nat) : Nat := Qf5 p (bot p (sd (full p) s))
theorem co_lt {p : List Nat} (s : Nat) : sd (full p) s < 2 ^ p.length := Qkg s (Qo4 p)
theorem Qnj {p : List Nat} {s i : Nat} : (sd (full p) s).testBit i = true ↔ i < p.length ∧ s.testBit i = false := by
 rw [Qhs, Qnq, Bool.and_eq_true, decide_eq_true_eq, Bool.not_eq_true']
theorem Qoh {p : List Nat} (g : Good p) (s : Nat) : row p s < 2 ^ p.length := close_lt g (Qng _)
theorem Qiq {p : List Nat} (g : Good p) {s : Nat} (hs : IsId p s) (i : Nat) : (row p s).testBit i = true ↔ ∃ e, e < p.length ∧ s.testBit e = false ∧ (∀ j, (less p e).testBit j = true → s.testBit j = true) ∧ (e = i ∨ (less p e).testBit i = true) := by
 unfold row
 rw [Qjm (Qng _)]
 have hb : ∀ e, (bot p (sd (full p) s)).testBit e = true ↔ e < p.length ∧ s.testBit e = false ∧ (∀ j, (less p e).testBit j = true → s.testBit j = true) := by
  intro e
  rw [bot_bit (co_lt s), Qnj, and_assoc]
  refine and_congr_right fun h1 => and_congr_right fun h2 => forall_congr' fun j => forall_congr' fun hj => ?_
  have b := g.bit hj
  rw [← Bool.not_eq_true, Qnj, not_and, Bool.not_eq_false]
  exact ⟨fun h => h (by omega), fun h _ => h⟩
 constructor
 ·
  rintro (h | ⟨e, h, hl⟩)
  ·
   have := (hb i).mp h
   exact ⟨i, this.1, this.2.1, this.2.2, .inl rfl⟩
  ·
   have := (hb e).mp h
   exact ⟨e, this.1, this.2.1, this.2.2, .inr hl⟩
 ·
  rintro ⟨e, h1, h2, h3, h4⟩
  rcases h4 with h4 | h4
  ·
   subst h4; exact .inl ((hb e).mpr ⟨h1, h2, h3⟩)
  ·
   exact .inr ⟨e, (hb e).mpr ⟨h1, h2, h3⟩, h4⟩
theorem Ql1 {p : List Nat} (g : Good p) {s : Nat} (hs : IsId p s) : IsId p (row p s) := by
 refine ⟨Qoh g s, fun e he i hi => ?_⟩
 rw [Qiq g hs] at he ⊢
 obtain ⟨f, h1, h2, h3, h4⟩ := he
 refine ⟨f, h1, h2, h3, .inr ?_⟩
 rcases h4 with h4 | h4
 ·
  rw [h4]; exact hi
 ·
  exact g.tr' h4 hi
structure Mid (p : List Nat) (s t : Nat) (P : Nat → Prop) (x : Nat) : Prop where
 id : IsId p x
 on : ∀ i, i < p.length → P i → x.testBit i = t.testBit i
 off : ∀ i, i < p.length → ¬ P i → x.testBit i = s.testBit i
theorem Mid.step {p : List Nat} {s t x i : Nat} {P Q : Nat → Prop} (I : Mid p s t P x) (hi : i < p.length) (hQ : ∀ k, k < p.length → (Q k ↔ P k ∨ k = i)) (h : (tg p x i).testBit i = t.testBit i) : Mid p s t Q (tg p x i) := by
 refine ⟨Qgy I.id hi, fun k hk hq => ?_, fun k hk hq => ?_⟩
 ·
  by_cases c : i = k
  ·
   subst c; exact h
  ·
   rw [tg_ne c]
   rcases (hQ k hk).mp hq with h | h
   ·
    exact I.on k hk h
   ·
    exact absurd h.symm c
 ·
  rw [tg_ne (fun c => hq ((hQ k hk).mpr (.inr c.symm)))]
  exact I.off k hk fun h => hq ((hQ k hk).mpr (.inl h))
theorem Mid.same {p : List Nat} {s t x : Nat} {P Q : Nat → Prop} (I : Mid p s t P x) (hQ : ∀ k, k < p.length → (Q k ↔ P k)) : Mid p s t Q x :=
 ⟨I.id, fun k hk h => I.on k hk ((hQ k hk).mp h), fun k hk h => I.off k hk fun h2 => h ((hQ k hk).mpr h2)⟩
theorem Mid.all {p : List Nat} {s t x : Nat} {P : Nat → Prop} (I : Mid p s t P x) (ht : t < 2 ^ p.length) (h : ∀ i, i < p.length → P i) : x = t := by
 apply Nat.eq_of_testBit_eq
 intro i
 by_cases hi : i < p.length
 ·
  exact I.on i hi (h i hi)
 ·
  have big : ∀ y, y < 2 ^ p.length → y.testBit i = false := fun y hy => Nat.testBit_lt_two_pow (Nat.lt_of_lt_of_le hy (Nat.pow_le_pow_right (by decide) (by omega)))
  rw [big x I.id.1, big t ht]
theorem Mid.none {p : List Nat} {s : Nat} (t : Nat) (hs : IsId p s) {P : Nat → Prop} (h : ∀ i, i < p.length → ¬ P i) : Mid p s t P s :=
 ⟨hs, fun i hi hp => absurd hp (h i hi), fun _ _ _ => rfl⟩
theorem Mid.row {p : List Nat} (g : Good p) {s x i : Nat} {P Q : Nat → Prop} (hs : IsId p s) (I : Mid p s (row p s) P x) (hi : i < p.length) (hP : ¬ P i) (up : ∀ k, (less p k).testBit i = true → P k)
  (dn : ∀ j, (less p i).testBit j = true → ¬ P j) (hQ : ∀ k, k < p.length → (Q k ↔ P k ∨ k = i)) : Mid p s (M.row p s) Q (tg p x i) := by
 refine I.step hi hQ ?_
 have xi := I.off i hi hP
 rw [Bool.eq_iff_iff, tg_eq g I.id hi, xi]
 cases hb : s.testBit i
 ·
  constructor
  ·
   rintro (h | ⟨_, h⟩)
   ·
    cases h.1
   ·
    rw [Qiq g hs]
    refine ⟨i, hi, hb, fun j hj => ?_, .inl rfl⟩
    have b := g.bit hj
    rw [← I.off j (by omega) (dn j hj)]; exact h j hj
  ·
   intro h
   rw [Qiq g hs] at h
   obtain ⟨e, h1, h2, h3, h4⟩ := h
   refine .inr ⟨rfl, fun f hf => ?_⟩
   have b := g.bit hf
   rw [I.off f (by omega) (dn f hf)]
   rcases h4 with h4 | h4
   ·
    rw [h4] at h3; exact h3 f hf
   ·
    have := h3 i h4
    rw [hb] at this; cases this
 ·
  constructor
  ·
   rintro (⟨_, f, hf, hl⟩ | h)
   ·
    have b := g.bit hl
    have := I.on f b.2 (up f hl)
    rw [hf] at this
    exact (Ql1 g hs).2 f this.symm i hl
   ·
    cases h.1
  ·
   intro h
   rw [Qiq g hs] at h
   obtain ⟨e, h1, h2, h3, h4⟩ := h
   rcases h4 with h4 | h4
   ·
    subst h4; rw [hb] at h2; cases h2
   ·
    refine .inl ⟨rfl, e, ?_, h4⟩
    rw [I.on e h1 (up e h4), Qiq g hs]
    exact ⟨e, h1, h2, h3, .inl rfl⟩
def top (p : List Nat) (s : Nat) : Nat := Qco p.length s (fun o e => sd o (less p e)) s
theorem Qkl (p : List Nat) (s a i : Nat) : ∀ n, (Qco n s (fun o e => sd o (less p e)) a).testBit i = true ↔ (a.testBit i = true ∧ ∀ e, e < n → s.testBit e = true → (less p e).testBit i = false)
 | 0 => by simp [Qco]
 | n + 1 => by
  rw [Qdu]
  have ih := Qkl p s a i n
  split
  ·
   rename_i hs
   rw [Qhs, Bool.and_eq_true, ih, Bool.not_eq_true']
   constructor
   ·
    rintro ⟨⟨h1, h2⟩, h3⟩
    refine ⟨h1, fun e he hb => ?_⟩
    by_cases c : e = n
    ·
     subst c; exact h3
    ·
     exact h2 e (by omega) hb
   ·
    rintro ⟨h1, h2⟩
    exact ⟨⟨h1, fun e he hb => h2 e (by omega) hb⟩, h2 n (by omega) hs⟩
  ·
   rename_i hs
   rw [ih]
   constructor
   ·
    rintro ⟨h1, h2⟩
    refine ⟨h1, fun e he hb => ?_⟩
    by_cases c : e = n
    ·
     subst c; exact absurd hb hs
    ·
     exact h2 e (by omega) hb
   ·
    rintro ⟨h1, h2⟩
    exact ⟨h1, fun e he hb => h2 e (by omega) hb⟩
theorem Qkj {p : List Nat} {s : Nat} (hs : s < 2 ^ p.length) (i : Nat) : (top p s).testBit i = true ↔ s.testBit i = true ∧ ∀ e, s.testBit e = true → (less p e).testBit i = false := by
 unfold top
 rw [Qkl]
 exact and_congr_right fun _ => ⟨fun h e he => h e (Qfp hs he) he, fun h e _ he => h e he⟩
theorem top_lt {p : List Nat} {s : Nat} (hs : s < 2 ^ p.length) : top p s < 2 ^ p.length := Qee _ _ _ _ (· < 2 ^ p.length) hs (fun a e ha _ _ => Qkg _ ha)
def back (p : List Nat) (s : Nat) : Nat := Qco p.length (sd (full p) (top p s)) (fun o e => if less p e &&& top p s = 0 then o ||| 2 ^ e else o) 0
theorem Qkv {p : List Nat} (s : Nat) (i : Nat) : (back p s).testBit i = true ↔ i < p.length ∧ (top p s).testBit i = false ∧ ∀ j, (less p i).testBit j = true → (top p s).testBit j = false := by
 unfold back
 rw [Qib (fun e => less p e &&& top p s = 0), Nat.zero_testBit, Qnj, Qku]
 constructor
 ·
  rintro (h | ⟨_, ⟨h1, h2⟩, h3⟩)
  ·
   cases h
  ·
   exact ⟨h1, h2, h3⟩
 ·
  rintro ⟨h1, h2, h3⟩
  exact .inr ⟨h1, ⟨h1, h2⟩, h3⟩
theorem Mid.back {p : List Nat} (g : Good p) {s x i : Nat} {P Q : Nat → Prop} (hs : IsId p s) (I : Mid p s (back p s) P x) (hi : i < p.length) (hP : ¬ P i) (up : ∀ k, (less p k).testBit i = true → ¬ P k)
  (dn : ∀ j, (less p i).testBit j = true → P j) (hQ : ∀ k, k < p.length → (Q k ↔ P k ∨ k = i)) : Mid p s (M.back p s) Q (tg p x i) := by
 refine I.step hi hQ ?_
 have xi := I.off i hi hP
 rw [Bool.eq_iff_iff, tg_eq g I.id hi, xi, Qkv]
 cases hb : s.testBit i
 ·
  have ht : (top p s).testBit i = false := by
   apply Bool.eq_false_iff.mpr; intro h; rw [Qkj hs.1, hb] at h; cases h.1
  constructor
  ·
   rintro (h | ⟨_, h⟩)
   ·
    cases h.1
   ·
    refine ⟨hi, ht, fun j hj => ?_⟩
    have b := g.bit hj
    have := h j hj
    rw [I.on j (by omega) (dn j hj), Qkv] at this
    exact this.2.1
  ·
   rintro ⟨_, _, h⟩
   refine .inr ⟨rfl, fun f hf => ?_⟩
   have b := g.bit hf
   rw [I.on f (by omega) (dn f hf), Qkv]
   exact ⟨by omega, h f hf, fun j hj => h j (g.tr' hf hj)⟩
 ·
  constructor
  ·
   rintro (⟨_, f, hf, hl⟩ | h)
   ·
    have b := g.bit hl
    rw [I.off f b.2 (up f hl)] at hf
    refine ⟨hi, ?_, fun j hj => ?_⟩
    ·
     apply Bool.eq_false_iff.mpr; intro h; rw [Qkj hs.1] at h
     rw [h.2 f hf] at hl; cases hl
    ·
     apply Bool.eq_false_iff.mpr; intro h; rw [Qkj hs.1] at h
     rw [h.2 i hb] at hj; cases hj
   ·
    cases h.1
  ·
   rintro ⟨_, h1, h2⟩
   refine .inl ⟨rfl, ?_⟩
   apply Classical.byContradiction
   intro hn
   apply Bool.eq_false_iff.mp h1
   rw [Qkj hs.1]
   refine ⟨hb, fun e he => ?_⟩
   apply Bool.eq_false_iff.mpr
   intro hl
   have b := g.bit hl
   exact hn ⟨e, by rw [I.off e b.2 (up e hl)]; exact he, hl⟩
theorem Qnp {p : List Nat} (g : Good p) {s : Nat} (hs : IsId p s) : (List.range p.length).reverse.foldl (tg p) s = row p s := by
 have : ∀ d n, n + d = p.length → Mid p s (row p s) (n ≤ ·) ((List.range' n d).reverse.foldl (tg p) s) := by
  intro d
  induction d with
  | zero => intro n hn; exact Mid.none _ hs (fun i _ h => by omega)
  | succ d ih =>
   intro n hn
   rw [List.range'_succ, List.reverse_cons, List.foldl_append]
   refine (ih (n + 1) (by omega)).row g hs (by omega) (by omega) (fun k hk => ?_) (fun j hj => ?_) (fun k _ => by omega)
   ·
    have := g.bit hk; omega
   ·
    have := g.bit hj; omega
 have h := this p.length 0 (by omega)
 rw [← List.range_eq_range'] at h
 exact h.all (Qoh g s) (fun i hi => Nat.zero_le _)
theorem Qjl {p : List Nat} (g : Good p) (u : Nat) (hu : u < 2 ^ p.length) : ∀ (d q a : Nat), q + d = (Qc8 u).length → a < 2 ^ p.length →
  Ev (fun k => Qbw.l0 k (u : Int) (a : Int) (toI (Qc8 u)) ((toI (Qc8 u)).length : Int) (q : Int) (toI p)) (((((Qc8 u).drop q).foldl (fun o e => if less p e &&& u = 0 then o ||| 2 ^ e else o) a : Nat)) : Int)
 | 0, q, a, h, ha => by
  refine Ev.step (fun _ => Qbw.l0.eq_2 ..) (Qbh (by rw [toI_len]; omega) ?_)
  rw [List.drop_of_length_le (by omega)]; exact Ev.now _
 | d + 1, q, a, h, ha => by
  have gl := g.le
  have hq : q < (Qc8 u).length := by omega
  have hm := Qh2 hq
  have hb := Qfp hu hm.2
  have hl := Qgc u
  have h2 := Qf2 hb
  refine Ev.step (fun _ => Qbw.l0.eq_2 ..) ?_
  rw [Qi8 hq]
  refine Qh (by rw [toI_len]; omega) (Qh (by omega) (Qh (by rw [toI_len]; omega) (Qh (by omega) (Qh (by rw [toI_len]; omega) ?_))))
  rw [Qfa, Qkx (g.lt63 _) (g.len63 hu), Qb1 (by omega), Qf3 (by omega), Qf9 (g.len63 ha) (g.len63 h2), List.drop_eq_getElem_cons hq, List.foldl_cons]
  refine Qdb (fun e => ?_) (fun e => ?_)
  ·
   rw [if_pos (by omega)]
   exact Qjl g u hu d (q + 1) _ (by omega) (Nat.or_lt_two_pow ha h2)
  ·
   rw [if_neg (by omega)]
   exact Qjl g u hu d (q + 1) _ (by omega) ha
theorem Qp0 {p : List Nat} (g : Good p) {u : Nat} (hu : u < 2 ^ p.length) : Ev (fun k => Qbw.f k (toI p) (u : Int)) ((bot p u : Nat) : Int) := by
 refine Ev.bind (Qgp (g.len63 hu)) ?_
 have h := Qjl g u hu _ 0 0 (Nat.zero_add _) (Nat.two_pow_pos _)
 rw [List.drop_zero, Qfr _ _ hu g.le] at h
 exact h
theorem Ql0 {p : List Nat} (g : Good p) {s : Nat} (hs : s < 2 ^ p.length) : Ev (fun k => Qb7.f k (toI p) (s : Int)) ((row p s : Nat) : Int) := by
 refine Qbp (Qne g.le) ?_
 rw [Qfu (g.len63 (Qo4 p)) (g.len63 hs)]
 exact Ev.bind (Qp0 g (co_lt s)) (Ev.bind (Qiz g (Qng _)) (Ev.now _))
theorem Qjw {p : List Nat} (g : Good p) (u : Nat) (hu : u < 2 ^ p.length) : ∀ (d i a : Nat), i + d = p.length → a < 2 ^ p.length →
  Ev (fun k => Qcm.l0 k (u : Int) (a : Int) (toI p) ((toI p).length : Int) (i : Int)) (((List.range' i d).foldl (fun o e => if u.testBit e = true then o ||| less p e else o) a : Nat) : Int)
 | 0, i, a, h, ha => Ev.step (fun _ => Qcm.l0.eq_2 ..) (Qbh (by rw [toI_len]; omega) (Ev.now _))
 | d + 1, i, a, h, ha => by
  have gl := g.le
  refine Ev.step (fun _ => Qcm.l0.eq_2 ..) (Qh (by rw [toI_len]; omega) (Qh (by omega) (Qh (by rw [toI_len]; omega) (Qbp (Qgd (by omega)) ?_))))
  rw [Qfa, Qf9 (g.len63 ha) (g.lt63 _), Qb1 (by omega), List.range'_succ, List.foldl_cons]
  refine Qdb (fun e => ?_) (fun e => ?_)
  ·
   rw [if_pos e]; exact Qjw g u hu d (i + 1) _ (by omega) (Nat.or_lt_two_pow ha (g.lt10 _))
  ·
   rw [if_neg e]; exact Qjw g u hu d (i + 1) _ (by omega) ha
theorem Qqe {p : List Nat} (g : Good p) {u : Nat} (hu : u < 2 ^ p.length) : Ev (fun k => Qcm.f k (toI p) (u : Int)) ((Qf5 p u : Nat) : Int) := by
 have h := Qjw g u hu p.length 0 u (by omega) hu
 rw [← List.range_eq_range'] at h
 exact h
theorem Qk5 {p : List Nat} (g : Good p) (u : Nat) (hu : u < 2 ^ p.length) : ∀ (d i a : Nat), i + d = p.length → a < 2 ^ p.length →
  Ev (fun k => Qct.l0 k (u : Int) (a : Int) (toI p) ((toI p).length : Int) (i : Int)) (((List.range' i d).foldl (fun o e => if u.testBit e = true then sd o (less p e) else o) a : Nat) : Int)
 | 0, i, a, h, ha => Ev.step (fun _ => Qct.l0.eq_2 ..) (Qbh (by rw [toI_len]; omega) (Ev.now _))
 | d + 1, i, a, h, ha => by
  have gl := g.le
  refine Ev.step (fun _ => Qct.l0.eq_2 ..) (Qh (by rw [toI_len]; omega) (Qh (by omega) (Qh (by rw [toI_len]; omega) (Qbp (Qgd (by omega)) ?_))))
  rw [Qfa, Qfu (g.len63 ha) (g.lt63 _), Qb1 (by omega), List.range'_succ, List.foldl_cons]
  refine Qdb (fun e => ?_) (fun e => ?_)
  ·
   rw [if_pos e]; exact Qk5 g u hu d (i + 1) _ (by omega) (Qkg _ ha)
  ·
   rw [if_neg e]; exact Qk5 g u hu d (i + 1) _ (by omega) ha
theorem poTop_ev {p : List Nat} (g : Good p) {u : Nat} (hu : u < 2 ^ p.length) : Ev (fun k => Qct.f k (toI p) (u : Int)) ((top p u : Nat) : Int) := by
 have h := Qk5 g u hu p.length 0 u (by omega) hu
 rw [← List.range_eq_range'] at h
 exact h
def rvB (l : List Int) (s : Int) : Bool := idB l s && rgB l
theorem Qhr {l : List Int} {s : Int} (h : rvB l s = true) : ∃ (p : List Nat) (t : Nat), l = toI p ∧ s = (t : Int) ∧ Good p ∧ IsId p t ∧ Qdk p = true := by
 unfold rvB at h
 rw [Bool.and_eq_true] at h
 obtain ⟨p, t, rfl, rfl, g, ht⟩ := idB_of h.1
 obtain ⟨p', e, _, hr⟩ := Qj0 h.2
 obtain rfl := Qmk e
 exact ⟨p, t, rfl, rfl, g, ht, hr⟩
theorem Qc5 (l : List Int) (s : Int) : Ev (fun k => Qbx.f k l s) (rvB l s) := by
 refine Ev.bind (Qlp l s) ?_
 unfold rvB
 refine Qdb (fun e => ?_) (fun e => ?_)
 ·
  rw [e, Bool.true_and]; exact Ev.bind (Qfi l) (Ev.now _)
 ·
  rw [Bool.eq_false_iff.mpr e, Bool.false_and]; exact Ev.now _
theorem Qfe (l : List Int) (s : Int) : Ev (fun k => Qcl.f k l s) (rvB l s) := by
 refine Ev.bind (Qgg l) ?_
 unfold rvB
 rw [Bool.and_comm]
 refine Qdb (fun e => ?_) (fun e => ?_)
 ·
  obtain ⟨p, rfl, g, hr⟩ := Qj0 e
  unfold idB setB
  rw [e, Bool.true_and, Qg0 g, Bool.true_and, toI_len, Qfm]
  refine Qbp (Qk4 p s g.le) (Qdb (fun e => ?_) (fun e => ?_))
  ·
   have b := Qe3.mp e
   have := Nat.two_pow_pos p.length
   obtain ⟨t, rfl⟩ : ∃ t : Nat, s = (t : Int) := ⟨s.toNat, by omega⟩
   rw [e, Bool.true_and, Int.toNat_natCast]
   exact Ev.bind (Qi7 g (by omega)) (Ev.now _)
  ·
   rw [Bool.eq_false_iff.mpr e, Bool.false_and]; exact Ev.now _
 ·
  rw [Bool.eq_false_iff.mpr e, Bool.false_and]; exact Ev.now _
def mask (p : List Nat) (r : Nat) : Nat → Nat
 | 0 => 0
 | i + 1 => if hh p i = r then mask p r i ||| 2 ^ i else mask p r i
theorem Qhf (p : List Nat) (r : Nat) : ∀ i, mask p r i < 2 ^ i
 | 0 => by simp [mask]
 | i + 1 => by
  have := Qhf p r i
  have h2 : 2 ^ i < 2 ^ (i + 1) := Nat.pow_lt_pow_right (by decide) (by omega)
  unfold mask
  split
  ·
   exact Nat.or_lt_two_pow (by omega) h2
  ·
   omega
theorem Qev (p : List Nat) (r e : Nat) : ∀ i, (mask p r i).testBit e = (decide (e < i) && decide (hh p e = r))
 | 0 => by simp [mask]
 | i + 1 => by
  have ih := Qev p r e i
  unfold mask
  split
  ·
   rename_i h
   rw [Nat.testBit_or, ih, Nat.testBit_two_pow]
   by_cases c : i = e
   ·
    subst c; simp [h]
   ·
    by_cases c2 : e < i
    ·
     simp [c, c2, show e < i + 1 by omega]
    ·
     simp [c, c2, show ¬ e < i + 1 by omega]
  ·
   rename_i h
   rw [ih]
   by_cases c : i = e
   ·
    subst c; simp [h]
   ·
    by_cases c2 : e < i
    ·
     simp [c2, show e < i + 1 by omega]
    ·
     simp [c2, show ¬ e < i + 1 by omega]
def mxs (p : List Nat) : Nat → Nat
 | 0 => 0
 | i + 1 => max (mxs p i) (hh p i + 1)
def hgh (p : List Nat) : Nat := mxs p p.length
theorem Qn3 (p : List Nat) : ∀ i, mxs p i ≤ i
 | 0 => Nat.le_refl _
 | i + 1 => by have := Qn3 p i; have := hh_le p i; unfold mxs; omega
theorem Qin (p : List Nat) {e : Nat} : ∀ i, e < i → hh p e + 1 ≤ mxs p i
 | 0, h => by omega
 | i + 1, h => by
  unfold mxs
  by_cases c : e = i
  ·
   subst c; omega
  ·
   have := Qin p i (e := e) (by omega); omega
theorem Qms (p : List Nat) {r : Nat} : ∀ i, mxs p i ≤ r → mask p r i = 0
 | 0, _ => rfl
 | i + 1, h => by
  unfold mxs at h
  unfold mask
  rw [if_neg (by omega)]
  exact Qms p i (by omega)
def rks (p : List Nat) (M i : Nat) : List Nat := (List.range M).map fun r => mask p r i
theorem Qhi (p : List Nat) (M i : Nat) : (rks p M i).length = M := by simp [rks]
theorem Qmf (p : List Nat) {M i r : Nat} (h : r < M) : (rks p M i).getD r 0 = mask p r i := by simp [rks, List.getD_eq_getElem?_getD, h]
theorem Qpa (p : List Nat) {M i : Nat} : (rks p M i).set (hh p i) (mask p (hh p i) i ||| 2 ^ i) = rks p M (i + 1) := by
 apply List.ext_getElem (by simp [rks])
 intro r h1 h2
 rw [List.getElem_set]
 simp only [rks, List.getElem_map, List.getElem_range]
 by_cases c : hh p i = r
 ·
  rw [if_pos c, mask, if_pos c, c]
 ·
  rw [if_neg c, mask, if_neg c]
theorem rks_grow (p : List Nat) {M i : Nat} (h : mxs p i ≤ M) : toI (rks p M i) ++ [0] = toI (rks p (M + 1) i) := by
 unfold rks
 rw [List.range_succ, List.map_append, List.map_singleton, Qms p i h, Qgh]; rfl
theorem ht_eq (p : List Nat) : ht p = (List.range p.length).map (hh p) := by
 apply List.ext_getElem (by simp [ht_len])
 intro i h1 h2
 rw [List.getElem_map, List.getElem_range]
 simp [hh, List.getD_eq_getElem?_getD, h1]
theorem Qno (p : List Nat) : ∀ i, (List.range i).foldl (fun a e => max a (hh p e + 1)) 0 = mxs p i
 | 0 => rfl
 | i + 1 => by rw [List.range_succ, List.foldl_append, Qno p i]; rfl
theorem fold_mx (l : List Nat) : ∀ a : Nat, (toI l).foldl (fun m x => mx m x) (a : Int) = ((l.foldl max a : Nat) : Int) := by
 induction l with
 | nil => intro a; rfl
 | cons x l ih => intro a; rw [List.foldl_cons, ← ih (max a x), ← mx_nat]; rfl
theorem Qp7 (l : List Nat) : ∀ a : Nat, l.foldl max a + 1 = l.foldl (fun a x => max a (x + 1)) (a + 1) := by
 induction l with
 | nil => intro a; rfl
 | cons x l ih => intro a; rw [List.foldl_cons, List.foldl_cons, ih, show max (a + 1) (x + 1) = max a x + 1 by omega]
theorem max_ev {p : List Nat} (g : Good p) : Qca.f (toI (ht p)) = some (((hgh p : Nat) : Int) - 1) := by
 have gl := g.le
 have gp := g.pos
 have e1 : hgh p = (ht p).foldl (fun a x => max a (x + 1)) 0 := by rw [ht_eq, List.foldl_map, Qno]; rfl
 unfold Qca.f
 rw [if_pos (by rw [toI_len, ht_len]; omega)]
 refine congrArg some ?_
 unfold Qca.g
 rw [e1]
 cases hl : ht p with
 | nil => have := ht_len p; rw [hl] at this; simp at this; omega
 | cons x t =>
  have e2 : rd (toI (x :: t)) 0 = (x : Int) := rfl
  have e3 : (toI (x :: t)).drop 1 = toI t := rfl
  rw [e2, e3, fold_mx, List.foldl_cons, show max 0 (x + 1) = x + 1 by omega, ← Qp7]
  omega
theorem Qjr {p : List Nat} (g : Good p) : ∀ (d i : Nat), i + d = p.length → Ev (fun k => Q9.l0 k (toI (rks p (hgh p) i)) (toI (ht p)) ((toI (ht p)).length : Int) (i : Int)) (toI (rks p (hgh p) p.length))
 | 0, i, h => by
  refine Ev.step (fun _ => Q9.l0.eq_2 ..) (Qbh (by rw [toI_len, ht_len]; omega) ?_)
  obtain rfl : i = p.length := by omega
  exact Ev.now _
 | d + 1, i, h => by
  have gl := g.le
  have hm := Qin p (e := i) p.length (by omega)
  have hm' : hh p i < hgh p := hm
  have ei : rd (toI (ht p)) (i : Int) = ((hh p i : Nat) : Int) := Qem _ _
  refine Ev.step (fun _ => Q9.l0.eq_2 ..) (Qh (by rw [toI_len, ht_len]; omega) (Qh (by omega) (Qh (by rw [toI_len, ht_len]; omega) ?_)))
  rw [ei]
  refine Qh (by omega) (Qh (by rw [toI_len, Qhi]; omega) ?_)
  have h2 : 2 ^ i < 2 ^ 63 := Nat.pow_lt_pow_right (by decide) (by omega)
  have hml := Go.Proofs.YtkgngggppcmpfaaGreat.M.lt63 (Qhf p (hh p i) i) (by omega)
  rw [Qem, Qmf p hm', Qf3 (by omega), Qf9 hml h2, Int.toNat_natCast, Qki, Qpa, Qb1 (by omega)]
  exact Qjr g d (i + 1) (by omega)
def Qff (p : List Nat) : List Nat := rks p (hgh p) p.length
theorem Qe5 {p : List Nat} (g : Good p) : 1 ≤ hgh p ∧ hgh p ≤ 10 := by
 have := Qn3 p p.length
 have := g.le
 have := g.pos
 have := Qin p (e := 0) p.length (by omega)
 unfold hgh; omega
theorem Qfk {p : List Nat} (g : Good p) : Ev (fun k => Q9.f k (toI p)) (toI (Qff p)) := by
 have gh := Qe5 g
 refine Ev.bind (Qgo g) (Qbp (max_ev g) ?_)
 rw [show ((hgh p : Nat) : Int) - 1 + 1 = ((hgh p : Nat) : Int) by omega, Qdt (by omega) (by omega), Int.toNat_natCast]
 refine Qh (by omega) (Qh (by omega) ?_)
 have := Qjr g p.length 0 (by omega)
 have e : List.replicate (hgh p) (0 : Int) = toI (rks p (hgh p) 0) := by
  rw [show (0 : Int) = ((0 : Nat) : Int) from rfl, Qml]
  congr 1
  exact (List.eq_replicate_iff.mpr ⟨by simp [rks], by simp [rks, mask]⟩).symm
 rw [e]; exact this
theorem Qj5 {p : List Nat} (g : Good p) (i : Nat) (hi : i < p.length) (r : List Int) (c : Ev (fun k => Q0.l0 k (toI (rks p (mxs p (i + 1)) (i + 1))) (toI (ht p)) ((toI (ht p)).length : Int) ((i + 1 : Nat) : Int)) r) : ∀ (d M : Nat), hh p i + 1 ≤ M + d → mxs p i ≤ M → M ≤ mxs p (i + 1) →
  Ev (fun k => Q0.l1 k (toI (rks p M i)) (i : Int) ((hh p i : Nat) : Int) (toI (ht p)) ((toI (ht p)).length : Int) (i : Int)) r
 | d, M, h, h1, h2 => by
  have gl := g.le
  have hle := hh_le p i
  have hM := Qn3 p (i + 1)
  by_cases hc : M ≤ hh p i
  ·
   match d, h with
   | 0, h => omega
   | d + 1, h =>
    refine Ev.step (fun _ => Q0.l1.eq_2 ..) (Qh (by rw [toI_len, Qhi]; omega) (Qh (by rw [toI_len, Qhi]; omega) ?_))
    rw [rks_grow p h1]
    exact Qj5 g i hi r c d (M + 1) (by omega) (by omega) (by unfold mxs; omega)
  ·
   refine Ev.step (fun _ => Q0.l1.eq_2 ..) (Qbh (by rw [toI_len, Qhi]; omega) (Qh (by omega) (Qh (by rw [toI_len, Qhi]; omega) (Qh (by omega) ?_))))
   have h3 : 2 ^ i < 2 ^ 63 := Nat.pow_lt_pow_right (by decide) (by omega)
   have hml := Go.Proofs.YtkgngggppcmpfaaGreat.M.lt63 (Qhf p (hh p i) i) (by omega)
   rw [Qem, Qmf p (by omega), Qf3 (by omega), Qf9 hml h3, Int.toNat_natCast, Qki, Qpa, Qb1 (by omega)]
   have e : M = mxs p (i + 1) := by
    have : mxs p (i + 1) = max (mxs p i) (hh p i + 1) := rfl
    omega
   rw [e]; exact c
theorem Qj4 {p : List Nat} (g : Good p) : ∀ (d i : Nat), i + d = p.length → Ev (fun k => Q0.l0 k (toI (rks p (mxs p i) i)) (toI (ht p)) ((toI (ht p)).length : Int) (i : Int)) (toI (Qff p))
 | 0, i, h => by
  refine Ev.step (fun _ => Q0.l0.eq_2 ..) (Qbh (by rw [toI_len, ht_len]; omega) ?_)
  obtain rfl : i = p.length := by omega
  exact Ev.now _
 | d + 1, i, h => by
  have gl := g.le
  have ei : rd (toI (ht p)) (i : Int) = ((hh p i : Nat) : Int) := Qem _ _
  refine Ev.step (fun _ => Q0.l0.eq_2 ..) (Qh (by rw [toI_len, ht_len]; omega) (Qh (by omega) (Qh (by rw [toI_len, ht_len]; omega) ?_)))
  rw [ei]
  exact Qj5 g i (by omega) _ (Qj4 g d (i + 1) (by omega)) (hh p i + 1) _ (by omega) (Nat.le_refl _) (by show mxs p i ≤ max _ _; omega)
theorem Qfc {p : List Nat} (g : Good p) : Ev (fun k => Q0.f k (toI p)) (toI (Qff p)) :=
 Ev.bind (Qit g) (Qj4 g p.length 0 (by omega))
theorem Qek (p : List Nat) : (Qff p).length = hgh p := Qhi p _ _
theorem Qg3 (p : List Nat) {r : Nat} (h : r < hgh p) : rd (toI (Qff p)) (r : Int) = ((mask p r p.length : Nat) : Int) := by rw [Qem]; exact congrArg _ (Qmf p h)
theorem high_ev {p : List Nat} (g : Good p) : Ev (fun k => Qdv.f k (toI p)) (((hgh p - 1 : Nat) : Int)) := by
 have := Qe5 g
 refine Ev.bind (Qfk g) ?_
 rw [toI_len, Qek, Qdt (by omega) (by omega), show ((hgh p : Nat) : Int) - 1 = ((hgh p - 1 : Nat) : Int) by omega]
 exact Ev.now _
def tgS (p : List Nat) (s m : Nat) : Nat := Qco p.length m (tg p) s
theorem Ql6 {p : List Nat} {s m : Nat} (hs : s < 2 ^ p.length) : tgS p s m < 2 ^ p.length := Qee _ _ _ _ (· < 2 ^ p.length) hs (fun a e ha he _ => tg_lt ha he)
theorem Qf4 {p : List Nat} {s m : Nat} (hs : IsId p s) : IsId p (tgS p s m) := Qee _ _ _ _ (IsId p) hs (fun a e ha he _ => Qgy ha he)
theorem Qmg {p : List Nat} (g : Good p) (m : Nat) : ∀ (d i s : Nat), i + d = p.length → s < 2 ^ p.length →
  Ev (fun k => Qcd.l0 k (s : Int) (m : Int) (p.length : Int) (i : Int) (toI p)) ((((List.range' i d).foldl (fun s e => if m.testBit e = true then tg p s e else s) s : Nat)) : Int)
 | 0, i, s, h, hs => Ev.step (fun _ => Qcd.l0.eq_2 ..) (Qbh (by omega) (Ev.now _))
 | d + 1, i, s, h, hs => by
  have gl := g.le
  refine Ev.step (fun _ => Qcd.l0.eq_2 ..) (Qh (by omega) (Qbp (Qgd (by omega)) ?_))
  rw [List.range'_succ, List.foldl_cons, Qb1 (by omega)]
  refine Qdb (fun e => ?_) (fun e => ?_)
  ·
   rw [if_pos e]
   exact Ev.bind (tgAt_ev g hs (by omega)) (Qmg g m d (i + 1) _ (by omega) (tg_lt hs (by omega)))
  ·
   rw [if_neg e]; exact Qmg g m d (i + 1) s (by omega) hs
theorem Qir {p : List Nat} (g : Good p) (m : Nat) {s : Nat} (hs : s < 2 ^ p.length) : Ev (fun k => Qcd.f k (toI p) (s : Int) (m : Int)) (((tgS p s m : Nat)) : Int) := by
 unfold Qcd.f
 rw [toI_len]
 have := Qmg g m p.length 0 s (by omega) hs
 rw [← List.range_eq_range'] at this; exact this
def tgR (p : List Nat) (s r : Nat) : Nat := tgS p s (mask p r p.length)
theorem Qiw {p : List Nat} (g : Good p) (w : List Nat) (hw : ∀ r ∈ w, r < hgh p) (hl : w.length ≤ 100000) : ∀ (d q s : Nat), q + d = w.length → s < 2 ^ p.length →
  Ev (fun k => Qp.l0 k (s : Int) (toI (Qff p)) (toI w) ((toI w).length : Int) (q : Int) (toI p)) ((((w.drop q).foldl (tgR p) s : Nat)) : Int)
 | 0, q, s, h, hs => by
  refine Ev.step (fun _ => Qp.l0.eq_2 ..) (Qbh (by rw [toI_len]; omega) ?_)
  rw [List.drop_of_length_le (by omega)]; exact Ev.now _
 | d + 1, q, s, h, hs => by
  have gl := g.le
  have hq : q < w.length := by omega
  have hr := hw _ (List.getElem_mem hq)
  have hmk := Qhf p w[q] p.length
  have er : rd (toI w) (q : Int) = ((w[q] : Nat) : Int) := by rw [Qem]; simp [List.getD_eq_getElem?_getD, hq]
  refine Ev.step (fun _ => Qp.l0.eq_2 ..) (Qh (by rw [toI_len]; omega) (Qh (by omega) (Qh (by rw [toI_len]; omega) ?_)))
  rw [er]
  refine Qh (by omega) (Qh (by rw [toI_len, Qek]; omega) ?_)
  rw [Qg3 p hr, List.drop_eq_getElem_cons hq, List.foldl_cons, Qb1 (by omega)]
  refine Ev.bind (Qgp (g.len63 hmk)) ?_
  refine Ev.bind (Qpz g (Qc8 (mask p w[q] p.length)) (fun e he => Qfp hmk (Qh3.mp he).2) (by have := Qgc (mask p w[q] p.length); omega) hs) ?_
  rw [Qfr _ _ hmk gl]
  exact Qiw g w hw hl d (q + 1) _ (by omega) (Ql6 hs)
theorem Qe4 {p : List Nat} (g : Good p) (w : List Nat) (hw : ∀ r ∈ w, r < hgh p) (hl : w.length ≤ 100000) {s : Nat} (hs : s < 2 ^ p.length) : Ev (fun k => Qp.f k (toI p) (s : Int) (toI w)) (((w.foldl (tgR p) s : Nat)) : Int) := by
 refine Ev.bind (Qfk g) ?_
 have := Qiw g w hw hl w.length 0 s (by omega) hs
 rwa [List.drop_zero] at this
theorem Qm4 {p : List Nat} (g : Good p) (w : List Nat) (hw : ∀ r ∈ w, r < hgh p) (hl : w.length ≤ 100000) : ∀ (d q s : Nat), q + d = w.length → s < 2 ^ p.length →
  Ev (fun k => Qbv.l0 k (s : Int) (toI (Qff p)) (toI w) ((toI w).length : Int) (q : Int) (toI p)) ((((w.drop q).foldl (tgR p) s : Nat)) : Int)
 | 0, q, s, h, hs => by
  refine Ev.step (fun _ => Qbv.l0.eq_2 ..) (Qbh (by rw [toI_len]; omega) ?_)
  rw [List.drop_of_length_le (by omega)]; exact Ev.now _
 | d + 1, q, s, h, hs => by
  have gl := g.le
  have hq : q < w.length := by omega
  have hr := hw _ (List.getElem_mem hq)
  have er : rd (toI w) (q : Int) = ((w[q] : Nat) : Int) := by rw [Qem]; simp [List.getD_eq_getElem?_getD, hq]
  refine Ev.step (fun _ => Qbv.l0.eq_2 ..) (Qh (by rw [toI_len]; omega) (Qh (by omega) (Qh (by rw [toI_len]; omega) ?_)))
  rw [er]
  refine Qh (by omega) (Qh (by rw [toI_len, Qek]; omega) ?_)
  rw [Qg3 p hr, List.drop_eq_getElem_cons hq, List.foldl_cons, Qb1 (by omega)]
  exact Ev.bind (Qir g _ hs) (Qm4 g w hw hl d (q + 1) _ (by omega) (Ql6 hs))
theorem Qj1 {p : List Nat} (g : Good p) (w : List Nat) (hw : ∀ r ∈ w, r < hgh p) (hl : w.length ≤ 100000) {s : Nat} (hs : s < 2 ^ p.length) : Ev (fun k => Qbv.f k (toI p) (s : Int) (toI w)) (((w.foldl (tgR p) s : Nat)) : Int) := by
 refine Ev.bind (Qfc g) ?_
 have := Qm4 g w hw hl w.length 0 s (by omega) hs
 rwa [List.drop_zero] at this
theorem Qox {p : List Nat} {i j : Nat} (h : covB p j i = false) (hb : (less p i).testBit j = true) : ∃ k, (less p i).testBit k = true ∧ (less p k).testBit j = true := by
 unfold covB at h
 rw [hb, Bool.true_and, List.all_eq_false] at h
 obtain ⟨k, _, hk⟩ := h
 rw [Bool.not_eq_true', Bool.not_eq_false, Bool.and_eq_true] at hk
 exact ⟨k, hk⟩
theorem Qnh {p : List Nat} (g : Good p) {s i j : Nat} (hs : IsId p s) (ht : IsId p (s ^^^ 2 ^ i)) (hij : i ≠ j) (c1 : covB p i j = false) (c2 : covB p j i = false) (h : Can p s j) : Can p (s ^^^ 2 ^ i) j := by
 refine ⟨fun h1 f hf => ?_, fun h1 f hf => ?_⟩
 ·
  rw [Qft hij] at h1
  apply Bool.eq_false_iff.mpr
  intro hc
  by_cases c : i = f
  ·
   subst c
   obtain ⟨k, hk1, hk2⟩ := Qox c2 hc
   have b := g.bit hk1
   have := ht.2 i hf k hk1
   rw [Qft (by omega)] at this
   rw [h.1 h1 k this] at hk2; cases hk2
  ·
   rw [Qft c] at hf
   rw [h.1 h1 f hf] at hc; cases hc
 ·
  rw [Qft hij] at h1
  have hsf := h.2 h1 f hf
  by_cases c : i = f
  ·
   subst c
   obtain ⟨k, hk1, hk2⟩ := Qox c1 hf
   have b := g.bit hk2
   have hk := h.2 h1 k hk1
   have hk' : (s ^^^ 2 ^ i).testBit k = true := by rw [Qft (by omega)]; exact hk
   exact ht.2 k hk' i hk2
  ·
   rw [Qft c]; exact hsf
theorem can_tg {p : List Nat} (g : Good p) {s i j : Nat} (hs : IsId p s) (hi : i < p.length) (hij : i ≠ j) (c1 : covB p i j = false) (c2 : covB p j i = false) : Can p (tg p s i) j ↔ Can p s j := by
 have ht := Qgy hs hi
 unfold tg at ht ⊢
 split
 ·
  rename_i h
  rw [if_pos h] at ht
  refine ⟨fun h2 => ?_, fun h2 => Qnh g hs ht hij c1 c2 h2⟩
  have e : s ^^^ 2 ^ i ^^^ 2 ^ i = s := by rw [Nat.xor_assoc, Nat.xor_self, Nat.xor_zero]
  have := Qnh (s := s ^^^ 2 ^ i) g ht (by rw [e]; exact hs) hij c1 c2 h2
  rwa [e] at this
 ·
  exact Iff.rfl
theorem tg_if {p : List Nat} (g : Good p) {s e : Nat} (hs : IsId p s) (he : e < p.length) (C : Prop) [Decidable C] (h : Can p s e ↔ C) : tg p s e = if C then s ^^^ 2 ^ e else s := by
 unfold tg
 by_cases c : C
 ·
  rw [if_pos c, if_pos ((Qii g hs he).mpr (h.mpr c))]
 ·
  rw [if_neg c, if_neg (fun hc => c (h.mp ((Qii g hs he).mp hc)))]
theorem tg_comm {p : List Nat} (g : Good p) {s i j : Nat} (hs : IsId p s) (hi : i < p.length) (hj : j < p.length) (c1 : covB p i j = false) (c2 : covB p j i = false) : tg p (tg p s i) j = tg p (tg p s j) i := by
 by_cases hij : i = j
 ·
  rw [hij]
 ·
  have e1 := tg_if g (Qgy hs hi) hj (Qel p (s ^^^ 2 ^ j) = true) ((can_tg g hs hi hij c1 c2).trans (Qii g hs hj).symm)
  have e2 := tg_if g (Qgy hs hj) hi (Qel p (s ^^^ 2 ^ i) = true) ((can_tg g hs hj (Ne.symm hij) c2 c1).trans (Qii g hs hi).symm)
  rw [e1, e2]
  unfold tg
  by_cases a : Qel p (s ^^^ 2 ^ i) = true <;> by_cases b : Qel p (s ^^^ 2 ^ j) = true
  ·
   rw [if_pos b, if_pos a, if_pos a, if_pos b, Nat.xor_assoc, Nat.xor_assoc, Nat.xor_comm (2 ^ i)]
  ·
   rw [if_neg b, if_pos a, if_pos a, if_neg b]
  ·
   rw [if_pos b, if_neg a, if_neg a, if_pos b]
  ·
   rw [if_neg b, if_neg a, if_neg a, if_neg b]
def Free (p : List Nat) (a b : Nat) : Prop := ∀ x y, a.testBit x = true → b.testBit y = true → covB p x y = false ∧ covB p y x = false
theorem Qjp {p : List Nat} (g : Good p) {b x : Nat} (hx : x < p.length) : ∀ (n : Nat), n ≤ p.length → ∀ (s : Nat), IsId p s → (∀ y, y < n → b.testBit y = true → covB p x y = false ∧ covB p y x = false) →
  tg p (Qco n b (tg p) s) x = Qco n b (tg p) (tg p s x)
 | 0, hn, s, hs, h => rfl
 | n + 1, hn, s, hs, h => by
  have ih := Qjp g hx n (by omega) s hs fun y hy hb => h y (by omega) hb
  rw [Qdu, Qdu]
  split
  ·
   rename_i hb
   have hi : IsId p (Qco n b (tg p) s) := Qee _ _ _ _ (IsId p) hs (fun a e ha he _ => Qgy ha (by omega))
   have hc := h n (by omega) hb
   rw [tg_comm g hi (by omega) hx hc.2 hc.1, ih]
  ·
   exact ih
theorem Qlk {p : List Nat} (g : Good p) {a b : Nat} (hab : ∀ x, a.testBit x = true → b.testBit x = false) (hf : Free p a b) : ∀ (n : Nat), n ≤ p.length → ∀ (s : Nat), IsId p s → Qco n (a ||| b) (tg p) s = Qco n b (tg p) (Qco n a (tg p) s)
 | 0, hn, s, hs => rfl
 | n + 1, hn, s, hs => by
  have ih := Qlk g hab hf n (by omega) s hs
  have hi : IsId p (Qco n a (tg p) s) := Qee _ _ _ _ (IsId p) hs (fun a e ha he _ => Qgy ha (by omega))
  rw [Qdu, Qdu, Qdu, Nat.testBit_or, ih]
  by_cases ha : a.testBit n = true
  ·
   have hb := hab n ha
   rw [ha, hb, Bool.true_or, if_pos rfl, if_pos rfl, if_neg (by simp)]
   exact Qjp g (by omega) n (by omega) _ hi fun y hy hby => hf n y ha hby
  ·
   rw [Bool.eq_false_iff.mpr ha, Bool.false_or, if_neg (c := false = true) (by simp)]
theorem Qh8 {p : List Nat} (g : Good p) {a b s : Nat} (hab : ∀ x, a.testBit x = true → b.testBit x = false) (hf : Free p a b) (hs : IsId p s) : tgS p s (a ||| b) = tgS p (tgS p s a) b := Qlk g hab hf _ (Nat.le_refl _) s hs
theorem Qhc {p : List Nat} (hr : Qdk p = true) {i j : Nat} (hi : i < p.length) (hj : j < p.length) (h : covB p j i = true) : hh p i = hh p j + 1 := by
 unfold Qdk at hr
 rw [List.all_eq_true] at hr
 have hm : [((j : Nat) : Int), ((i : Nat) : Int)] ∈ Qe1 p := by
  unfold Qe1
  simp only [List.mem_flatMap, List.mem_range, List.mem_map, List.mem_filter]
  exact ⟨j, hj, i, ⟨hi, h⟩, rfl⟩
 have := hr _ hm
 have e0 : rd [((j : Nat) : Int), ((i : Nat) : Int)] 0 = (j : Int) := rfl
 have e1 : rd [((j : Nat) : Int), ((i : Nat) : Int)] 1 = (i : Int) := rfl
 have hj' : rd (toI (ht p)) (j : Int) = ((hh p j : Nat) : Int) := Qem _ _
 have hi' : rd (toI (ht p)) (i : Int) = ((hh p i : Nat) : Int) := Qem _ _
 rw [e0, e1, hi', hj', beq_iff_eq] at this
 omega
def parM (p : List Nat) (b : Nat) : Nat → Nat
 | 0 => 0
 | r + 1 => if r % 2 = b then parM p b r ||| mask p r p.length else parM p b r
def parW (b : Nat) : Nat → List Nat
 | 0 => []
 | r + 1 => if r % 2 = b then parW b r ++ [r] else parW b r
theorem Qgr (p : List Nat) (b x : Nat) : ∀ r, (parM p b r).testBit x = true → x < p.length ∧ hh p x < r ∧ hh p x % 2 = b
 | 0, h => by simp [parM] at h
 | r + 1, h => by
  unfold parM at h
  split at h
  ·
   rw [Nat.testBit_or, Bool.or_eq_true] at h
   rcases h with h | h
   ·
    have := Qgr p b x r h; omega
   ·
    rw [Qev, Bool.and_eq_true, decide_eq_true_eq, decide_eq_true_eq] at h; omega
  ·
   have := Qgr p b x r h; omega
theorem Qoa {p : List Nat} (hr : Qdk p = true) {a c : Nat} (b : Nat) (ha : ∀ x, a.testBit x = true → x < p.length ∧ hh p x % 2 = b) (hc : ∀ x, c.testBit x = true → x < p.length ∧ hh p x % 2 = b) : Free p a c := by
 intro x y hx hy
 have h1 := ha x hx
 have h2 := hc y hy
 constructor
 ·
  apply Bool.eq_false_iff.mpr; intro h
  have := Qhc hr h2.1 h1.1 h; omega
 ·
  apply Bool.eq_false_iff.mpr; intro h
  have := Qhc hr h1.1 h2.1 h; omega
theorem Qob {p : List Nat} (g : Good p) (hr : Qdk p = true) (b : Nat) : ∀ (r : Nat) (s : Nat), IsId p s → tgS p s (parM p b r) = (parW b r).foldl (tgR p) s
 | 0, s, hs => by
  show Qco p.length 0 (tg p) s = s
  exact Qha 0 (tg p) _ s fun e _ => Nat.zero_testBit e
 | r + 1, s, hs => by
  have ih := Qob g hr b r s hs
  unfold parM parW
  split
  ·
   rename_i hb
   rw [List.foldl_append, ← ih]
   refine Qh8 g (fun x hx => ?_) (Qoa hr b (fun x hx => ?_) (fun x hx => ?_)) hs
   ·
    have := Qgr p b x r hx
    rw [Qev, Bool.and_eq_false_iff]; right; rw [decide_eq_false_iff_not]; omega
   ·
    have := Qgr p b x r hx; omega
   ·
    rw [Qev, Bool.and_eq_true, decide_eq_true_eq, decide_eq_true_eq] at hx; omega
  ·
   exact ih
theorem Qi5 {p : List Nat} (g : Good p) (hr : Qdk p = true) (b : Nat) : ∀ (r : Nat) (s : Nat), IsId p s → tgS p s (parM p b r) = (parW b r).reverse.foldl (tgR p) s
 | 0, s, hs => by
  show Qco p.length 0 (tg p) s = s
  exact Qha 0 (tg p) _ s fun e _ => Nat.zero_testBit e
 | r + 1, s, hs => by
  unfold parM parW
  split
  ·
   rename_i hb
   have e := Qi5 g hr b r (tgR p s r) (Qf4 hs)
   rw [List.reverse_append, List.reverse_singleton, List.singleton_append, List.foldl_cons, ← e, Nat.or_comm]
   refine Qh8 g (fun x hx => ?_) (Qoa hr b (fun x hx => ?_) (fun x hx => ?_)) hs
   ·
    apply Bool.eq_false_iff.mpr; intro h
    have := Qgr p b x r h
    rw [Qev, Bool.and_eq_true, decide_eq_true_eq, decide_eq_true_eq] at hx; omega
   ·
    rw [Qev, Bool.and_eq_true, decide_eq_true_eq, decide_eq_true_eq] at hx; omega
   ·
    have := Qgr p b x r hx; omega
  ·
   exact Qi5 g hr b r s hs
theorem Qkc {p : List Nat} (b : Nat) : ∀ r, parM p b r < 2 ^ p.length
 | 0 => Nat.two_pow_pos _
 | r + 1 => by
  unfold parM; split
  ·
   exact Nat.or_lt_two_pow (Qkc b r) (Qhf p r _)
  ·
   exact Qkc b r
theorem Qk1 {b x : Nat} : ∀ {r}, x ∈ parW b r → x < r
 | 0, h => by simp [parW] at h
 | r + 1, h => by
  unfold parW at h; split at h
  ·
   rw [List.mem_append, List.mem_singleton] at h
   rcases h with h | h
   ·
    have := Qk1 h; omega
   ·
    omega
  ·
   have := Qk1 h; omega
theorem Qi4 (b : Nat) : ∀ r, (parW b r).length ≤ r
 | 0 => Nat.le_refl _
 | r + 1 => by
  have := Qi4 b r
  unfold parW; split
  ·
   simp; omega
  ·
   omega
theorem Qkz (l : List Int) (h : l.length < 17592186044416) : Qed.f l = some l := by
 unfold Qed.f; rw [Option.bind_some, if_pos (by simpa using h)]; rfl
theorem Qnb (l : List Int) (h : l.length < 17592186044416) : Qdl.f l = some l := by unfold Qdl.f; rw [if_pos h]
theorem Qly (l : List Int) (hl : l.length ≤ 1000000) : ∀ (d i j : Nat) (x : List Int), i + j + 1 = l.length → j + 1 ≤ i + d → (hx : x.length = l.length) →
  (∀ t (h : t < x.length), x[t] = if t < i ∨ j < t then l[l.length - 1 - t]'(by omega) else l[t]'(by omega)) → Ev (fun k => Q6.l0 k x (i : Int) (j : Int)) l.reverse
 | 0, i, j, x, h, hd, hx, ht => by
  refine Ev.step (fun _ => Q6.l0.eq_2 ..) (Qbh (by omega) ?_)
  have e : x = l.reverse := by
   apply List.ext_getElem (by simpa using hx)
   intro t h1 h2
   rw [ht t h1, List.getElem_reverse]
   split
   ·
    rfl
   ·
    congr 1; omega
  rw [e]; exact Ev.now _
 | d + 1, i, j, x, h, hd, hx, ht => by
  by_cases hij : i < j
  ·
   refine Ev.step (fun _ => Q6.l0.eq_2 ..) (Qh (by omega) (Qh (by omega) (Qh (by omega) (Qh (by omega) (Qh (by omega) ?_)))))
   have hi : i < x.length := by omega
   have hj : j < x.length := by omega
   rw [Qgj hi, Qgj hj, Qb1 (by omega), Qdt (x := (j : Int) - 1) (by omega) (by omega), show ((j : Int) - 1) = ((j - 1 : Nat) : Int) by omega, Int.toNat_natCast, Int.toNat_natCast]
   refine Qly l hl d (i + 1) (j - 1) _ (by omega) (by omega) (by simpa using hx) (fun t h1 => ?_)
   have h1' : t < x.length := by simpa using h1
   rw [List.getElem_set, List.getElem_set]
   by_cases c1 : j = t
   ·
    subst c1
    rw [if_pos rfl, if_pos (by omega)]
    refine (ht i hi).trans ?_
    rw [if_neg (by omega)]
    congr 1; omega
   ·
    rw [if_neg c1]
    by_cases c2 : i = t
    ·
     subst c2
     rw [if_pos rfl, if_pos (by omega)]
     refine (ht j hj).trans ?_
     rw [if_neg (by omega)]
     congr 1; omega
    ·
     rw [if_neg c2, ht t h1']
     by_cases c3 : t < i ∨ j < t
     ·
      rw [if_pos c3, if_pos (by omega)]
     ·
      rw [if_neg c3, if_neg (by omega)]
  ·
   refine Ev.step (fun _ => Q6.l0.eq_2 ..) (Qbh (by omega) ?_)
   have e : x = l.reverse := by
    apply List.ext_getElem (by simpa using hx)
    intro t h1 h2
    rw [ht t h1, List.getElem_reverse]
    split
    ·
     rfl
    ·
     congr 1; omega
   rw [e]; exact Ev.now _
theorem Qlx (l : List Int) (hl : l.length ≤ 1000000) : Ev (fun k => Q6.f k l) l.reverse := by
 unfold Q6.f
 cases hn : l with
 | nil => exact Ev.step (fun _ => Q6.l0.eq_2 ..) (Qbh (by simp [wrap64]) (Ev.now _))
 | cons x t =>
  rw [← hn]
  have hp : 0 < l.length := by rw [hn]; simp
  rw [Qdt (by omega) (by omega), show ((l.length : Int) - 1) = ((l.length - 1 : Nat) : Int) by omega]
  refine Qly l hl l.length 0 (l.length - 1) l (by omega) (by omega) rfl (fun t h => ?_)
  rw [if_neg (by omega)]
theorem Qpj (p : List Nat) : (toI p).reverse = toI p.reverse := by simp [toI]
theorem Qks {p : List Nat} (g : Good p) {s : Nat} (hs : IsId p s) (back : Bool) : ∀ (d r : Nat), r + d = hgh p →
  Ev (fun k => Qbf.l0 k (s : Int) back ((parM p 0 r : Nat) : Int) ((parM p 1 r : Nat) : Int) (toI (Qff p)) ((toI (Qff p)).length : Int) (r : Int) (toI p))
   (((if back = true then tgS p (tgS p s (parM p 1 (hgh p))) (parM p 0 (hgh p)) else tgS p (tgS p s (parM p 0 (hgh p))) (parM p 1 (hgh p)) : Nat)) : Int)
 | 0, r, h => by
  refine Ev.step (fun _ => Qbf.l0.eq_2 ..) (Qbh (by rw [toI_len, Qek]; omega) ?_)
  obtain rfl : r = hgh p := by omega
  refine Qdb (fun e => ?_) (fun e => ?_)
  ·
   rw [if_pos e]
   exact Ev.bind (Qir g _ hs.1) (Ev.bind (Qir g _ (Ql6 hs.1)) (Ev.now _))
  ·
   rw [if_neg e]
   exact Ev.bind (Qir g _ hs.1) (Ev.bind (Qir g _ (Ql6 hs.1)) (Ev.now _))
 | d + 1, r, h => by
  have gh := Qe5 g
  have ih := Qks g hs back d (r + 1) (by omega)
  have hm := g.len63 (Qhf p r p.length)
  have e0 := g.len63 (Qkc (p := p) 0 r)
  have e1 := g.len63 (Qkc (p := p) 1 r)
  have em : Int.tmod (r : Int) 2 = ((r % 2 : Nat) : Int) := by rw [Int.tmod_eq_emod_of_nonneg (by omega)]; omega
  refine Ev.step (fun _ => Qbf.l0.eq_2 ..) (Qh (by rw [toI_len, Qek]; omega) (Qh (by omega) (Qh (by rw [toI_len, Qek]; omega) ?_)))
  rw [Qg3 p (by omega), Qf9 e0 hm, Qf9 e1 hm, Qb1 (by omega), em]
  refine Qdb (fun e => ?_) (fun e => ?_)
  ·
   have h0 : parM p 0 (r + 1) = parM p 0 r ||| mask p r p.length := by rw [parM, if_pos (by omega)]
   have h1 : parM p 1 (r + 1) = parM p 1 r := by rw [parM, if_neg (by omega)]
   rw [h0, h1] at ih; exact ih
  ·
   have h0 : parM p 0 (r + 1) = parM p 0 r := by rw [parM, if_neg (by omega)]
   have h1 : parM p 1 (r + 1) = parM p 1 r ||| mask p r p.length := by rw [parM, if_pos (by omega)]
   rw [h0, h1] at ih; exact ih
theorem Qig {p : List Nat} (g : Good p) {s : Nat} (hs : IsId p s) (back : Bool) : Ev (fun k => Qbf.f k (toI p) (s : Int) back)
   (((if back = true then tgS p (tgS p s (parM p 1 (hgh p))) (parM p 0 (hgh p)) else tgS p (tgS p s (parM p 0 (hgh p))) (parM p 1 (hgh p)) : Nat)) : Int) :=
 Ev.bind (Qfc g) (Qks g hs back (hgh p) 0 (by omega))
def gyW (h : Nat) : List Nat := parW 0 h ++ parW 1 h
def fil (h b x : Nat) : List Nat := (List.range' x (h - x)).filter fun r => decide (r % 2 = b)
theorem fil_step {h b x : Nat} (hb : x % 2 = b) (hx : x < h) : fil h b x = x :: fil h b (x + 2) := by
 unfold fil
 obtain ⟨n, hn⟩ : ∃ n, h - x = n + 1 := ⟨h - x - 1, by omega⟩
 rw [hn, List.range'_succ, List.filter_cons_of_pos (by simpa using hb)]
 congr 1
 cases n with
 | zero => rw [show h - (x + 2) = 0 by omega]; rfl
 | succ m => rw [List.range'_succ, List.filter_cons_of_neg (by simp; omega), show h - (x + 2) = m by omega]
theorem fil_end {h b x : Nat} (hx : h ≤ x) : fil h b x = [] := by unfold fil; rw [show h - x = 0 by omega]; rfl
theorem Qk3 (b : Nat) : ∀ h, parW b h = (List.range h).filter fun r => decide (r % 2 = b)
 | 0 => rfl
 | h + 1 => by
  unfold parW
  rw [List.range_succ, List.filter_append, ← Qk3 b h]
  split
  ·
   rename_i hb; rw [List.filter_cons_of_pos (by simpa using hb)]; rfl
  ·
   rename_i hb; rw [List.filter_cons_of_neg (by simpa using hb)]; simp
theorem parW_0 (h : Nat) : parW 0 h = fil h 0 0 := by rw [Qk3, List.range_eq_range']; rfl
theorem parW_1 {h : Nat} (hp : 1 ≤ h) : parW 1 h = fil h 1 1 := by
 rw [Qk3, List.range_eq_range']
 obtain ⟨n, rfl⟩ : ∃ n, h = n + 1 := ⟨h - 1, by omega⟩
 rw [List.range'_succ, List.filter_cons_of_neg (by simp)]; rfl
theorem gy_l1 {p : List Nat} (g : Good p) (b q : Nat) (hq : q < 2) (r : List Int) : ∀ (d x : Nat) (acc : List Nat), hgh p ≤ x + 2 * d → x % 2 = b → x ≤ hgh p + 1 → acc.length + d ≤ 1000 →
  Ev (fun k => Q1.l0 k (toI (acc ++ fil (hgh p) b x)) [0, 1] (([0, 1] : List Int).length : Int) ((q + 1 : Nat) : Int) (toI p)) r →
  Ev (fun k => Q1.l1 k (toI acc) (x : Int) [0, 1] (([0, 1] : List Int).length : Int) (q : Int) (toI p)) r
 | d, x, acc, hd, hx, h1, ha, c => by
  have gh := Qe5 g
  refine Ev.step (fun _ => Q1.l1.eq_2 ..) (Ev.bind (high_ev g) ?_)
  by_cases hc : x < hgh p
  ·
   match d, hd, ha with
   | 0, hd, ha => omega
   | d + 1, hd, ha =>
    refine Qh (by omega) (Qh (by rw [toI_len]; omega) ?_)
    rw [Qdt (by omega) (by omega), show (x : Int) + 2 = ((x + 2 : Nat) : Int) by omega, ← Qhj, ← Qgh]
    refine gy_l1 g b q hq r d (x + 2) _ (by omega) (by omega) (by omega) (by simp; omega) ?_
    rw [fil_step hx hc] at c
    rw [List.append_assoc]; exact c
  ·
   refine Qbh (by omega) ?_
   rw [Qb1 (by omega)]
   rw [fil_end (by omega), List.append_nil] at c; exact c
theorem Qkb {p : List Nat} (g : Good p) : Ev (fun k => Q1.f k (toI p)) (toI (gyW (hgh p))) := by
 have gh := Qe5 g
 refine Qbp rfl ?_
 refine Ev.step (fun _ => Q1.l0.eq_2 ..) (Qh (by decide) (Qh (by decide) (Qh (by decide) ?_)))
 refine gy_l1 g 0 0 (by decide) _ 10 0 [] (by omega) rfl (by omega) (by simp) ?_
 refine Ev.step (fun _ => Q1.l0.eq_2 ..) (Qh (by decide) (Qh (by decide) (Qh (by decide) ?_)))
 have hl := Qi4 0 (hgh p)
 rw [parW_0] at hl
 refine gy_l1 g 1 1 (by decide) _ 10 1 _ (by omega) rfl (by omega) (by rw [List.nil_append]; omega) ?_
 refine Ev.step (fun _ => Q1.l0.eq_2 ..) (Qbh (by decide) ?_)
 rw [List.nil_append, ← parW_0, ← parW_1 (by omega)]
 exact Ev.now _
theorem Qg1 {p : List Nat} : ∀ r ∈ gyW (hgh p), r < hgh p := fun r hr => by
 unfold gyW at hr
 rw [List.mem_append] at hr
 rcases hr with h | h <;> exact Qk1 h
theorem Qhd (h : Nat) : (gyW h).length ≤ 2 * h := by
 have := Qi4 0 h
 have := Qi4 1 h
 unfold gyW; rw [List.length_append]; omega
theorem Qik {p : List Nat} (g : Good p) (hr : Qdk p = true) {s : Nat} (hs : IsId p s) : (gyW (hgh p)).foldl (tgR p) s = tgS p (tgS p s (parM p 0 (hgh p))) (parM p 1 (hgh p)) := by
 unfold gyW
 rw [List.foldl_append, ← Qob g hr 0 _ s hs, ← Qob g hr 1 _ _ (Qf4 hs)]
theorem gy_back {p : List Nat} (g : Good p) (hr : Qdk p = true) {s : Nat} (hs : IsId p s) : (gyW (hgh p)).reverse.foldl (tgR p) s = tgS p (tgS p s (parM p 1 (hgh p))) (parM p 0 (hgh p)) := by
 unfold gyW
 rw [List.reverse_append, List.foldl_append, ← Qi5 g hr 1 _ s hs, ← Qi5 g hr 0 _ _ (Qf4 hs)]
theorem Qhk (l : List Int) (s : Int) (hl : l.length ≤ 1048576) : ∃ r : Int × Bool, Ev (fun k => Qdz.f k l s) r ∧ Ev (fun k => Qdp.f k l s) r := by
 by_cases h : rvB l s = true
 ·
  obtain ⟨p, t, rfl, rfl, g, ht, hr⟩ := Qhr h
  have gh := Qe5 g
  have hv := Qhd (hgh p)
  refine ⟨((((gyW (hgh p)).foldl (tgR p) t : Nat) : Int), true), ?_, ?_⟩
  ·
   have := Qig g ht false
   rw [if_neg (by simp), ← Qik g hr ht] at this
   exact Ev.bind (Qfe _ _) (Qh h (Ev.bind this (Ev.now _)))
  ·
   exact Ev.bind (Qc5 _ _) (Qh h (Ev.bind (Qkb g) (Ev.bind (Qe4 g _ Qg1 (by omega) ht.1) (Ev.now _))))
 ·
  exact ⟨(0, false), Ev.bind (Qfe _ _) (Qbh h (Ev.now _)), Ev.bind (Qc5 _ _) (Qbh h (Ev.now _))⟩
theorem Qhv (l : List Int) (s : Int) (hl : l.length ≤ 1048576) : ∃ r : Int × Bool, Ev (fun k => Qd3.f k l s) r ∧ Ev (fun k => Qck.f k l s) r := by
 by_cases h : rvB l s = true
 ·
  obtain ⟨p, t, rfl, rfl, g, ht, hr⟩ := Qhr h
  have gh := Qe5 g
  have hv := Qhd (hgh p)
  refine ⟨((((gyW (hgh p)).reverse.foldl (tgR p) t : Nat) : Int), true), ?_, ?_⟩
  ·
   have := Qig g ht true
   rw [if_pos rfl, ← gy_back g hr ht] at this
   exact Ev.bind (Qfe _ _) (Qh h (Ev.bind this (Ev.now _)))
  ·
   refine Ev.bind (Qc5 _ _) (Qh h (Ev.bind (Qkb g) ?_))
   have hb : Ev (fun k => Qd0.f k (toI (gyW (hgh p)))) (toI (gyW (hgh p)).reverse) := by
    refine Qbp (Qnb _ (by rw [toI_len]; omega)) (Ev.bind (Qlx _ (by rw [toI_len]; omega)) ?_)
    rw [Qpj]; exact Ev.now _
   exact Ev.bind hb (Ev.bind (Qe4 g _ (fun r hr => Qg1 r (List.mem_reverse.mp hr)) (by rw [List.length_reverse]; omega) ht.1) (Ev.now _))
 ·
  exact ⟨(0, false), Ev.bind (Qfe _ _) (Qbh h (Ev.now _)), Ev.bind (Qc5 _ _) (Qbh h (Ev.now _))⟩
end Go.Proofs.YtkgngggppcmpfaaGreat.M
end
section
namespace Go.Proofs.YtkgngggppcmpfaaGreat.L
open Go.RowKit Go.Proofs.YtkgngggppcmpfaaGreatW.PrintWords Go.Proofs.YtkgngggppcmpfaaGreatW.PrintLast Go.Proofs.YtkgngggppcmpfaaGreatW.PrintMore Go.Proofs.YtkgngggppcmpfaaGreat.X
attribute [local go_sem] Q2 Q4 Qbb Qbc Qt Qu Q3 Q5
set_option linter.unusedVariables false
set_option linter.unusedSimpArgs false
end Go.Proofs.YtkgngggppcmpfaaGreat.L
end
section
namespace Go.Proofs.YtkgngggppcmpfaaGreat.M
open Go.RowKit Go.Proofs.YtkgngggppcmpfaaGreatW.PrintWords Go.Proofs.YtkgngggppcmpfaaGreatW.PrintLast Go.Proofs.YtkgngggppcmpfaaGreatW.PrintMore Go.Proofs.YtkgngggppcmpfaaGreat.L
set_option linter.unusedVariables false
end Go.Proofs.YtkgngggppcmpfaaGreat.M
end
section
namespace Go.Proofs.YtkgngggppcmpfaaGreat.L
open Go.RowKit Go.Proofs.YtkgngggppcmpfaaGreatW.PrintWords Go.Proofs.YtkgngggppcmpfaaGreatW.PrintLast Go.Proofs.YtkgngggppcmpfaaGreatW.PrintMore Go.Proofs.YtkgngggppcmpfaaGreat.X
attribute [local go_sem] Q2 Q4 Qbb Qbc Qt Qu Q3 Q5
set_option linter.unusedVariables false
set_option linter.unusedSimpArgs false
end Go.Proofs.YtkgngggppcmpfaaGreat.L
end
section
namespace Go.Proofs.YtkgngggppcmpfaaGreat.M
open Go.RowKit Go.Proofs.YtkgngggppcmpfaaGreatW.PrintWords Go.Proofs.YtkgngggppcmpfaaGreatW.PrintLast Go.Proofs.YtkgngggppcmpfaaGreatW.PrintMore Go.Proofs.YtkgngggppcmpfaaGreat.L
set_option linter.unusedVariables false
theorem Qix (l : List Int) (hl : l.length ≤ 1048576) : ∃ r : List Int × Bool, r.1.length ≤ 1000 ∧ Ev (fun k => Qeg.f k l) r ∧ Ev (fun k => Qd2.f k l) r := by
 by_cases h : rgB l = true
 ·
  obtain ⟨p, rfl, g, hr⟩ := Qj0 h
  have gh := Qe5 g
  exact ⟨(toI (Qff p), true), by rw [toI_len, Qek]; omega, Ev.bind (Qgg _) (Qh h (Ev.bind (Qfc g) (Ev.now _))), Ev.bind (Qfi _) (Qh h (Ev.bind (Qfk g) (Ev.now _)))⟩
 ·
  exact ⟨([], false), Nat.zero_le _, Ev.bind (Qgg _) (Qbh h (Ev.now _)), Ev.bind (Qfi _) (Qbh h (Ev.now _))⟩
theorem Qof {p : List Nat} (g : Good p) {s : Nat} (hs : IsId p s) (r : Nat) {x : Nat} (I : Mid p s (row p s) (fun i => r < hh p i) x) : ∀ n, n ≤ p.length →
  Mid p s (row p s) (fun i => r < hh p i ∨ (hh p i = r ∧ i < n)) (Qco n (mask p r p.length) (tg p) x)
 | 0, _ => I.same fun k _ => by simp
 | n + 1, hn => by
  have ih := Qof g hs r I n (by omega)
  rw [Qdu]
  have hm : (mask p r p.length).testBit n = true ↔ hh p n = r := by rw [Qev]; simp; omega
  by_cases c : hh p n = r
  ·
   rw [if_pos (hm.mpr c)]
   refine ih.row g hs (by omega) (by omega) (fun k hk => ?_) (fun j hj => ?_) (fun k _ => ?_)
   ·
    have := hh_lt g hk; omega
   ·
    have := hh_lt g hj; omega
   ·
    constructor
    ·
     rintro (h | ⟨h1, h2⟩)
     ·
      exact .inl (.inl h)
     ·
      by_cases e : k = n
      ·
       exact .inr e
      ·
       exact .inl (.inr ⟨h1, by omega⟩)
    ·
     rintro ((h | ⟨h1, h2⟩) | h)
     ·
      exact .inl h
     ·
      exact .inr ⟨h1, by omega⟩
     ·
      subst h; exact .inr ⟨c, by omega⟩
  ·
   rw [if_neg (fun h => c (hm.mp h))]
   refine ih.same fun k _ => ?_
   constructor
   ·
    rintro (h | ⟨h1, h2⟩)
    ·
     exact .inl h
    ·
     refine .inr ⟨h1, ?_⟩
     have : k ≠ n := fun e => by subst e; exact c h1
     omega
   ·
    rintro (h | ⟨h1, h2⟩)
    ·
     exact .inl h
    ·
     exact .inr ⟨h1, by omega⟩
theorem Qm1 {p : List Nat} (g : Good p) {s : Nat} (hs : IsId p s) : ∀ (d r : Nat), r + d = hgh p → Mid p s (row p s) (fun i => r ≤ hh p i) ((List.range' r d).reverse.foldl (tgR p) s)
 | 0, r, h => Mid.none _ hs fun i hi hc => by
  have := Qin p p.length hi
  unfold hgh at h; omega
 | d + 1, r, h => by
  have ih := Qm1 g hs d (r + 1) (by omega)
  rw [List.range'_succ, List.reverse_cons, List.foldl_append]
  have := Qof g hs r (ih.same fun k _ => Iff.rfl) p.length (Nat.le_refl _)
  refine this.same fun k hk => ?_
  omega
theorem Qm2 {p : List Nat} (g : Good p) {s : Nat} (hs : IsId p s) : (List.range (hgh p)).reverse.foldl (tgR p) s = row p s := by
 have h := Qm1 g hs (hgh p) 0 (by omega)
 rw [← List.range_eq_range'] at h
 exact h.all (Qoh g s) fun i _ => Nat.zero_le _
theorem Qis {p : List Nat} (g : Good p) {s : Nat} (hs : IsId p s) : ∀ (d : Nat) (acc : List Nat), acc ++ (List.range d).reverse = (List.range (hgh p)).reverse → acc.length + d ≤ 100 → Ev (fun k => Qb3.l0 k (s : Int) (toI acc) ((d : Int) - 1) (toI p)) (((row p s : Nat) : Int), true)
 | 0, acc, h, ha => by
  have gh := Qe5 g
  refine Ev.step (fun _ => Qb3.l0.eq_2 ..) (Qbh (by omega) ?_)
  rw [List.range_zero, List.reverse_nil, List.append_nil] at h
  rw [h, ← Qm2 g hs]
  exact Ev.bind (Qj1 g _ (fun r hr => by simpa using hr) (by rw [List.length_reverse, List.length_range]; omega) hs.1) (Ev.now _)
 | d + 1, acc, h, ha => by
  refine Ev.step (fun _ => Qb3.l0.eq_2 ..) (Qh (by omega) (Qh (by rw [toI_len]; omega) ?_))
  rw [show ((d + 1 : Nat) : Int) - 1 = (d : Int) by omega, Qdt (by omega) (by omega), ← Qhj, ← Qgh]
  refine Qis g hs d _ ?_ (by simp; omega)
  rw [← h, List.range_succ]; simp
theorem Qhw (l : List Int) (s : Int) (hl : l.length ≤ 1048576) : ∃ r : Int × Bool, Ev (fun k => Qb3.f k l s) r ∧ Ev (fun k => Qdw.f k l s) r := by
 by_cases h : rvB l s = true
 ·
  obtain ⟨p, t, rfl, rfl, g, ht, hr⟩ := Qhr h
  have gh := Qe5 g
  refine ⟨(((row p t : Nat) : Int), true), ?_, ?_⟩
  ·
   refine Ev.bind (Qfe _ _) (Qh h (Ev.bind (Qfc g) ?_))
   rw [toI_len, Qek, Qdt (by omega) (by omega)]
   exact Qis g ht (hgh p) [] rfl (by simp; omega)
  ·
   exact Ev.bind (Qc5 _ _) (Qh h (Ev.bind (Ql0 g ht.1) (Ev.now _)))
 ·
  exact ⟨(0, false), Ev.bind (Qfe _ _) (Qbh h (Ev.now _)), Ev.bind (Qc5 _ _) (Qbh h (Ev.now _))⟩
theorem Qnn {α β : Type} {f : Nat → α → Option β} {r : α → β} : ∀ l : List α, (∀ x ∈ l, Ev (fun k => f k x) (r x)) → ∃ K, ∀ k, K ≤ k → ∀ x ∈ l, f k x = some (r x)
 | [], _ => ⟨0, fun _ _ x hx => absurd hx (by simp)⟩
 | a :: l, h => by
  obtain ⟨K, hK⟩ := Qnn l fun x hx => h x (List.mem_cons_of_mem _ hx)
  obtain ⟨K', hK'⟩ := h a List.mem_cons_self
  refine ⟨max K K', fun k hk x hx => ?_⟩
  rcases List.mem_cons.mp hx with e | hx
  ·
   subst e; exact hK' k (by omega)
  ·
   exact hK k (by omega) x hx
def idls (p : List Nat) : List Nat := (List.range (2 ^ p.length)).filter (Qel p)
theorem Qf8 {p : List Nat} (g : Good p) : 2 ^ p.length ≤ 1024 := Nat.pow_le_pow_right (by omega) (show p.length ≤ 10 from g.le)
theorem Qi0 {p : List Nat} (g : Good p) : (idls p).length ≤ 1024 := by
 unfold idls
 have := List.length_filter_le (Qel p) (List.range (2 ^ p.length))
 rw [List.length_range] at this
 exact Nat.le_trans this (Qf8 g)
theorem Qdf {p : List Nat} {s : Nat} : s ∈ idls p ↔ IsId p s := by
 unfold idls
 rw [List.mem_filter, List.mem_range]
 constructor
 ·
  rintro ⟨h1, h2⟩; exact (Qe7 h1).mp h2
 ·
  intro h; exact ⟨h.1, (Qe7 h.1).mpr h⟩
theorem Qps (p : List Nat) : (idls p).Nodup := List.Pairwise.filter _ List.nodup_range
theorem Qid {p : List Nat} (g : Good p) : ∀ (d i : Nat) (acc : List Nat), i + d = 2 ^ p.length → acc.length ≤ i →
  Ev (fun k => Qb2.l0 k (toI acc) (i : Int) (toI p)) (toI (acc ++ (List.range' i d).filter (Qel p)))
 | 0, i, acc, h, ha => by
  refine Ev.step (fun _ => Qb2.l0.eq_2 ..) ?_
  have gl := g.le
  rw [toI_len, Qf3 (by omega)]
  refine Qbh (by omega) ?_
  rw [List.range'_zero, List.filter_nil, List.append_nil]
  exact Ev.now _
 | d + 1, i, acc, h, ha => by
  refine Ev.step (fun _ => Qb2.l0.eq_2 ..) ?_
  have gl := g.le
  have gp := Qf8 g
  rw [toI_len, Qf3 (by omega), List.range'_succ, List.filter_cons, Qb1 (by omega)]
  refine Qh (by omega) (Ev.bind (Qi7 g (show i < 2 ^ p.length by omega)) (Qdb (fun e => ?_) (fun e => ?_)))
  ·
   rw [if_pos e]
   refine Qh (by rw [toI_len]; omega) ?_
   rw [← Qhj, ← Qgh]
   have e2 := Qid g d (i + 1) (acc ++ [i]) (by omega) (by rw [List.length_append, List.length_singleton]; omega)
   rw [List.append_assoc] at e2
   exact e2
  ·
   rw [if_neg e]
   exact Qid g d (i + 1) _ (by omega) (by omega)
theorem Qos {p : List Nat} (g : Good p) : Ev (fun k => Qb2.f k (toI p)) (toI (idls p)) := by
 have := Qid g (2 ^ p.length) 0 [] (by omega) (Nat.le_refl 0)
 rw [List.nil_append, ← List.range_eq_range'] at this
 exact this
theorem Qmj {p : List Nat} (g : Good p) (i : Fn1) (hi : ∀ s : Nat, s < 2 ^ p.length → i.p (s : Int) = some (Qel p s)) (N : Nat) (hN : N = 2 ^ p.length) : ∀ (d q : Nat) (acc : List Nat), q + d = N → acc.length ≤ q →
  Ev (fun k => @Qbt.l0 i k (toI acc) (N : Int) (q : Int)) (toI (acc ++ (List.range' q d).filter (Qel p)))
 | 0, q, acc, h, ha => by
  refine Ev.step (fun _ => @Qbt.l0.eq_2 i ..) (Qbh (by omega) ?_)
  rw [List.range'_zero, List.filter_nil, List.append_nil]
  exact Ev.now _
 | d + 1, q, acc, h, ha => by
  refine Ev.step (fun _ => @Qbt.l0.eq_2 i ..) ?_
  have gp := Qf8 g
  rw [← hN] at gp
  rw [List.range'_succ, List.filter_cons, Qb1 (by omega)]
  refine Qh (by omega) (Qbp (hi q (by rw [← hN]; omega)) (Qdb (fun e => ?_) (fun e => ?_)))
  ·
   rw [if_pos e]
   refine Qh (by rw [toI_len]; omega) ?_
   rw [← Qhj, ← Qgh]
   have e2 := Qmj g i hi N hN d (q + 1) (acc ++ [q]) (by omega) (by rw [List.length_append, List.length_singleton]; omega)
   rw [List.append_assoc] at e2
   exact e2
  ·
   rw [if_neg e]
   exact Qmj g i hi N hN d (q + 1) _ (by omega) (by omega)
theorem Qg8 {p : List Nat} (g : Good p) : Ev (fun k => Qb0.f k (toI p)) (toI (idls p)) := by
 obtain ⟨K, hK⟩ := Qnn (f := fun k (s : Nat) => Qbi.f k (toI p) (s : Int)) (r := fun s => ((Qf5 p s : Nat) : Int)) (List.range (2 ^ p.length)) fun s hs => Qiz g (List.mem_range.mp hs)
 have hi : ∀ k, K ≤ k → ∀ s : Nat, s < 2 ^ p.length → (Qb0.inst k (toI p)).p (s : Int) = some (Qel p s) := by
  intro k hk s hs
  show (Qbi.f k (toI p) (s : Int)).map (· == (s : Int)) = some (Qel p s)
  rw [hK k hk s (List.mem_range.mpr hs), Option.map_some]
  refine congrArg some ?_
  rw [Bool.eq_iff_iff, beq_iff_eq, Qe7 hs, ← Qjn hs]
  omega
 obtain ⟨K', h⟩ := Qmj g _ (hi K (Nat.le_refl _)) _ rfl (2 ^ p.length) 0 [] (by omega) (Nat.le_refl 0)
 refine Ev.of (Qb0.mono _) (k := max K K') ?_
 unfold Qb0.f Qbt.f
 have gl := g.le
 have e1 : wrap64 (((full p : Nat) : Int) + 1) = ((2 ^ p.length : Nat) : Int) := by
  have h2 := Nat.two_pow_pos p.length
  have gp := Qf8 g
  unfold full
  rw [show (((2 ^ p.length - 1 : Nat) : Int) + 1) = ((2 ^ p.length : Nat) : Int) by omega]
  exact Qdt (by omega) (by omega)
 rw [Qne gl, Option.bind_some, e1]
 have h3 := h (max K K') (by omega)
 rw [List.nil_append, ← List.range_eq_range'] at h3
 refine Qb0.mono_i _ _ (fun s r hr => ?_) _ _ _ _ _ h3
 obtain ⟨v, hv, e⟩ := Option.map_eq_some_iff.mp hr
 exact Option.map_eq_some_iff.mpr ⟨v, Qmp (Qbi.mono _ _) (show K ≤ max K K' by omega) hv, e⟩
end Go.Proofs.YtkgngggppcmpfaaGreat.M
end
