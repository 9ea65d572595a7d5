/- Laws about the given program: the law FnOrbitsShareIdeals answers true for every input that its row lets in; no condition is added to the given statement. Contracts of the Go functions that it reaches, and the plain proof over lists. -/
import Derived.Laws.BitsLemmas
import Derived.WalkKit
import Derived.Test.YtkgngggppcmpfaaGreatWFnOrbitsShareIdeals0
import Derived.Test.YtkgngggppcmpfaaGreatKFnOrbitsShareIdeals0
import Derived.Test.YtkgngggppcmpfaaGreatKFnOrbitsShareIdeals1
import Derived.Test.YtkgngggppcmpfaaGreatKFnOrbitsShareIdeals2
import Derived.Test.YtkgngggppcmpfaaGreatKFnOrbitsShareIdeals3
import Derived.Test.YtkgngggppcmpfaaGreatKFnOrbitsShareIdeals4
import Derived.Test.YtkgngggppcmpfaaGreatKFnOrbitsShareIdeals5
import Derived.Test.YtkgngggppcmpfaaGreatKFnOrbitsShareIdeals6
import Derived.Test.YtkgngggppcmpfaaGreatKSF
section
namespace Go.Proofs.YtkgngggppcmpfaaGreat.M
open Go.RowKit Go.Proofs.YtkgngggppcmpfaaGreatW.PrintWords Go.Proofs.YtkgngggppcmpfaaGreatW.PrintLast Go.Proofs.YtkgngggppcmpfaaGreatW.PrintMore
theorem Qdy {x : Int} (h0 : -9223372036854775808 ≤ x) (h1 : x ≤ 9223372036854775807) : wrap64 x = x := by unfold wrap64; omega
theorem Qca {i : Nat} (h : i < 9223372036854775807) : wrap64 ((i : Int) + 1) = ((i + 1 : Nat) : Int) := by unfold wrap64; omega
theorem Qe4 {l : List Int} {i : Nat} (h : i < l.length) : rd l (i : Int) = l[i] := by simp [rd, List.getD_eq_getElem?_getD, h]
theorem Qc6 {α : Type} {c : Prop} [Decidable c] {f g : Nat → Option α} {r : α} (h1 : c → Ev f r) (h2 : ¬ c → Ev g r) : Ev (fun k => if c then f k else g k) r := by
 by_cases h : c
 ·
  obtain ⟨K, hK⟩ := h1 h; exact ⟨K, fun k hk => by simp only [if_pos h]; exact hK k hk⟩
 ·
  obtain ⟨K, hK⟩ := h2 h; exact ⟨K, fun k hk => by simp only [if_neg h]; exact hK k hk⟩
theorem Qk {α : Type} {c : Prop} [Decidable c] {f g : Nat → Option α} {r : α} (h : c) (h1 : Ev f r) : Ev (fun k => if c then f k else g k) r := Qc6 (fun _ => h1) (fun h2 => absurd h h2)
theorem Qbh {α : Type} {c : Prop} [Decidable c] {f g : Nat → Option α} {r : α} (h : ¬ c) (h1 : Ev g r) : Ev (fun k => if c then f k else g k) r := Qc6 (fun h2 => absurd h2 h) (fun _ => h1)
theorem Qbk {α β : Type} {x : Option α} {a : α} {f : Nat → α → Option β} {r : β} (h : x = some a) (k : Ev (fun n => f n a) r) : Ev (fun n => x.bind (f n)) r := by subst h; simpa using k
def inB (x lo hi : Int) : Bool := decide (lo ≤ x) && decide (x ≤ hi)
theorem Qd8 {x lo hi : Int} : inB x lo hi = true ↔ lo ≤ x ∧ x ≤ hi := by simp [inB]
def sd (a b : Nat) : Nat := a ^^^ (a &&& b)
theorem Qhy (a b i : Nat) : (sd a b).testBit i = (a.testBit i && !b.testBit i) := by
 unfold sd; rw [Nat.testBit_xor, Nat.testBit_and]; cases a.testBit i <;> cases b.testBit i <;> rfl
theorem Qj2 {a b : Nat} : sd a b = 0 ↔ ∀ i, a.testBit i = true → b.testBit i = true := by
 constructor
 ·
  intro h i ha
  have := Qhy a b i
  rw [h, Nat.zero_testBit, ha] at this
  cases hb : b.testBit i
  ·
   rw [hb] at this; simp at this
  ·
   rfl
 ·
  intro h
  apply Nat.eq_of_testBit_eq
  intro i
  rw [Qhy, Nat.zero_testBit]
  cases ha : a.testBit i
  ·
   rfl
  ·
   rw [h i ha]; rfl
theorem sd_le (a b : Nat) : sd a b ≤ a := by
 have e : sd a b = sd a b &&& a := by
  apply Nat.eq_of_testBit_eq
  intro i
  rw [Nat.testBit_and, Qhy]
  cases a.testBit i <;> cases b.testBit i <;> rfl
 rw [e]; exact Nat.and_le_right
theorem sd_lt {a : Nat} (b : Nat) {n : Nat} (h : a < 2 ^ n) : sd a b < 2 ^ n := Nat.lt_of_le_of_lt (sd_le a b) h
theorem Qgh {x : Nat} (h : x < 2 ^ 63) : IntKind.i64.wrap (x : Int) = (x : Int) := by
 rw [IntKind.wrap_i64]
 have : (x : Int) < 9223372036854775808 := by
  have h2 : (2 : Nat) ^ 63 = 9223372036854775808 := by decide
  omega
 omega
theorem Qfb {a : Nat} (h : a < 2 ^ 63) : (BitVec.ofInt IntKind.i64.bits (a : Int)).toNat = a := by
 have e : IntKind.i64.bits = 64 := rfl
 rw [e, BitVec.ofInt_natCast, BitVec.toNat_ofNat]
 exact Nat.mod_eq_of_lt (Nat.lt_of_lt_of_le h (by decide))
theorem Qh2 {a b : Nat} (ha : a < 2 ^ 63) (hb : b < 2 ^ 63) : Go.bits .or .i64 (a : Int) (b : Int) = ((a ||| b : Nat) : Int) := by
 simp only [Go.bits, BitVec.toNat_or, Qfb ha, Qfb hb]
 exact Qgh (Nat.or_lt_two_pow ha hb)
theorem Qil {a b : Nat} (ha : a < 2 ^ 63) (hb : b < 2 ^ 63) : Go.bits .and .i64 (a : Int) (b : Int) = ((a &&& b : Nat) : Int) := by
 simp only [Go.bits, BitVec.toNat_and, Qfb ha, Qfb hb]
 exact Qgh (Nat.and_lt_two_pow _ hb)
theorem Qey {a b : Nat} (ha : a < 2 ^ 63) (hb : b < 2 ^ 63) : Go.bits .andNot .i64 (a : Int) (b : Int) = ((sd a b : Nat) : Int) := by
 have e : (BitVec.ofInt IntKind.i64.bits (a : Int) &&& ~~~(BitVec.ofInt IntKind.i64.bits (b : Int))).toNat = sd a b := by
  apply Nat.eq_of_testBit_eq
  intro i
  rw [BitVec.toNat_and, Nat.testBit_and, Qfb ha, Qhy]
  cases hai : a.testBit i
  ·
   rfl
  ·
   have hi : i < 64 := by
    apply Nat.lt_of_not_le; intro h
    have : a < 2 ^ i := Nat.lt_of_lt_of_le ha (Nat.pow_le_pow_right (by decide) (by omega))
    rw [Nat.testBit_lt_two_pow this] at hai; cases hai
   have e2 : (~~~(BitVec.ofInt IntKind.i64.bits (b : Int))).toNat.testBit i = (~~~(BitVec.ofInt IntKind.i64.bits (b : Int))).getLsbD i := rfl
   have e3 : (BitVec.ofInt IntKind.i64.bits (b : Int)).getLsbD i = b.testBit i := by
    show (BitVec.ofInt IntKind.i64.bits (b : Int)).toNat.testBit i = _
    rw [Qfb hb]
   rw [e2, BitVec.getLsbD_not, e3]
   have : decide (i < IntKind.i64.bits) = true := decide_eq_true hi
   rw [this, Bool.true_and]
 simp only [Go.bits]
 rw [e]
 exact Qgh (sd_lt b ha)
theorem Qf8 {i : Nat} (h : i < 63) : shl .i64 1 (i : Int) = ((2 ^ i : Nat) : Int) := by
 unfold shl
 have e : min (i : Int).toNat IntKind.i64.bits = i := by
  have : IntKind.i64.bits = 64 := rfl
  rw [this, Int.toNat_natCast]; omega
 rw [e, Int.one_mul]
 have : ((2 : Int) ^ i) = ((2 ^ i : Nat) : Int) := by simp
 rw [this]
 exact Qgh (Nat.pow_lt_pow_right (by decide) h)
theorem Qgg {i : Nat} (h : i < 62) : wrap64 (shl .i64 1 (i : Int) - 1) = ((2 ^ i - 1 : Nat) : Int) := by
 rw [Qf8 (by omega)]
 have h1 : 0 < 2 ^ i := Nat.two_pow_pos i
 have h2 : 2 ^ i ≤ 2 ^ 62 := Nat.pow_le_pow_right (by decide) (by omega)
 have h3 : (2 : Nat) ^ 62 = 4611686018427387904 := by decide
 rw [Qdy (by omega) (by omega)]; omega
theorem Qmk {a i : Nat} (h : i ≤ 64) : shr .i64 (a : Int) (i : Int) = ((a / 2 ^ i : Nat) : Int) := by
 unfold shr
 have e : min (i : Int).toNat IntKind.i64.bits = i := by
  have : IntKind.i64.bits = 64 := rfl
  rw [this, Int.toNat_natCast]; omega
 rw [e]; simp
theorem Ql3 {a i : Nat} (h : i ≤ 64) : (Int.tmod (shr .i64 (a : Int) (i : Int)) 2 == 1) = a.testBit i := by
 rw [Qmk h]
 have : Int.tmod ((a / 2 ^ i : Nat) : Int) 2 = ((a / 2 ^ i % 2 : Nat) : Int) := by
  rw [show (2 : Int) = ((2 : Nat) : Int) from rfl, Int.ofNat_tmod]
 rw [this, Nat.testBit_eq_decide_div_mod_eq, Bool.eq_iff_iff, beq_iff_eq, decide_eq_true_eq]
 omega
theorem Qkv {a i : Nat} (h : i ≤ 64) : (Int.tmod (shr .i64 (a : Int) (i : Int)) 2 = 1) ↔ a.testBit i = true := by
 rw [← Ql3 h]; simp
theorem bit_and {a i : Nat} (ha : a < 2 ^ 63) (h : i ≤ 64) : (Go.bits .and .i64 (shr .i64 (a : Int) (i : Int)) 1 == 1) = a.testBit i := by
 rw [Qmk h, show (1 : Int) = ((1 : Nat) : Int) from rfl, Qil (Nat.lt_of_le_of_lt (Nat.div_le_self _ _) ha) (by decide), Nat.and_one_is_mod, Nat.testBit_eq_decide_div_mod_eq, Bool.eq_iff_iff, beq_iff_eq, decide_eq_true_eq]
 omega
theorem Qfh {a i n : Nat} (h : a < 2 ^ n) (hi : a.testBit i = true) : i < n := by
 apply Nat.lt_of_not_le; intro h2
 rw [Nat.testBit_lt_two_pow (Nat.lt_of_lt_of_le h (Nat.pow_le_pow_right (by decide) h2))] at hi; cases hi
theorem lt63 {a n : Nat} (h : a < 2 ^ n) (hn : n ≤ 63) : a < 2 ^ 63 := Nat.lt_of_lt_of_le h (Nat.pow_le_pow_right (by decide) hn)
end Go.Proofs.YtkgngggppcmpfaaGreat.M
end
section
namespace Go.Proofs.YtkgngggppcmpfaaGreat.M
set_option linter.unusedVariables false
open Go.RowKit Go.Proofs.YtkgngggppcmpfaaGreatW.PrintWords Go.Proofs.YtkgngggppcmpfaaGreatW.PrintLast Go.Proofs.YtkgngggppcmpfaaGreatW.PrintMore
def toI (p : List Nat) : List Int := p.map fun (x : Nat) => (x : Int)
@[simp] theorem toI_len (p : List Nat) : (toI p).length = p.length := by simp [toI]
@[simp] theorem toI_nil : toI [] = [] := rfl
theorem Qf9 (p q : List Nat) : toI (p ++ q) = toI p ++ toI q := by simp [toI]
theorem Qg0 (x : Nat) : toI [x] = [(x : Int)] := rfl
theorem Qeq (p : List Nat) (i : Nat) : rd (toI p) (i : Int) = ((p.getD i 0 : Nat) : Int) := by
 simp only [rd, toI, Int.toNat_natCast, List.getD_eq_getElem?_getD, List.getElem?_map]
 cases p[i]? <;> simp
theorem Qj4 {p q : List Nat} (h : toI p = toI q) : p = q := by
 exact (List.map_inj_right (fun a b h => Int.ofNat.inj h)).mp h
def less (p : List Nat) (i : Nat) : Nat := p.getD i 0
theorem Qk5 {p : List Nat} {i : Nat} (h : p.length ≤ i) : less p i = 0 := by simp [less, List.getD_eq_getElem?_getD, h]
theorem Qft (p : List Nat) (i : Nat) : rd (toI p) (i : Int) = ((less p i : Nat) : Int) := Qeq p i
structure Good (p : List Nat) : Prop where
 pos : 1 ≤ p.length
 le : p.length ≤ 10
 lt : ∀ i, i < p.length → less p i < 2 ^ i
 tr : ∀ i, i < p.length → ∀ j, (less p i).testBit j = true → ∀ m, (less p j).testBit m = true → (less p i).testBit m = true
theorem Good.bit {p : List Nat} (g : Good p) {i j : Nat} (h : (less p i).testBit j = true) : j < i ∧ i < p.length := by
 have hi : i < p.length := by
  apply Nat.lt_of_not_le; intro h2; rw [Qk5 h2, Nat.zero_testBit] at h; cases h
 exact ⟨Qfh (g.lt i hi) h, hi⟩
theorem Good.lt10 {p : List Nat} (g : Good p) (i : Nat) : less p i < 2 ^ p.length := by
 by_cases hi : i < p.length
 ·
  exact Nat.lt_of_lt_of_le (g.lt i hi) (Nat.pow_le_pow_right (by decide) (by omega))
 ·
  rw [Qk5 (by omega)]; exact Nat.two_pow_pos _
theorem Good.lt63 {p : List Nat} (g : Good p) (i : Nat) : less p i < 2 ^ 63 := M.lt63 (g.lt10 i) (by have := g.le; omega)
theorem Good.tr' {p : List Nat} (g : Good p) {i j m : Nat} (h1 : (less p i).testBit j = true) (h2 : (less p j).testBit m = true) : (less p i).testBit m = true := g.tr i (g.bit h1).2 j h1 m h2
def okAt (l : List Int) (i : Nat) : Bool := inB (l.getD i 0) 0 ((2 ^ i - 1 : Nat) : Int) && (List.range i).all fun j => !((l.getD i 0).toNat.testBit j) || sd (l.getD j 0).toNat (l.getD i 0).toNat == 0
theorem Qla (l : List Int) (i : Nat) : okAt l i = (inB (l.getD i 0) 0 ((2 ^ i - 1 : Nat) : Int) && (List.range i).all fun j => !((l.getD i 0).toNat.testBit j) || sd (l.getD j 0).toNat (l.getD i 0).toNat == 0) := rfl
def Qel (l : List Int) : Bool := inB (l.length : Int) 1 10 && (List.range' 0 l.length).all (okAt l)
theorem Qiu {l : List Int} {i : Nat} (h : okAt l i = true) : ∃ a : Nat, l.getD i 0 = (a : Int) ∧ a < 2 ^ i := by
 simp only [okAt, Bool.and_eq_true, Qd8] at h
 have := Nat.two_pow_pos i
 exact ⟨(l.getD i 0).toNat, by omega, by omega⟩
theorem Qee {l : List Int} (h : Qel l = true) : ∃ p, l = toI p ∧ Good p := by
 simp only [Qel, Bool.and_eq_true, Qd8, List.all_eq_true, List.mem_range'_1] at h
 obtain ⟨⟨h1, h2⟩, h3⟩ := h
 have hn : ∀ i, i < l.length → okAt l i = true := fun i hi => h3 i (by omega)
 have e : l = toI (l.map Int.toNat) := by
  apply List.ext_getElem (by simp)
  intro i hi1 hi2
  obtain ⟨a, ha, _⟩ := Qiu (hn i hi1)
  have hg : l.getD i 0 = l[i] := by simp [List.getD_eq_getElem?_getD, hi1]
  simp only [toI, List.getElem_map]; omega
 refine ⟨l.map Int.toNat, e, ?_⟩
 have hl : ∀ i, less (l.map Int.toNat) i = (l.getD i 0).toNat := by
  intro i
  simp only [less, List.getD_eq_getElem?_getD, List.getElem?_map]
  cases l[i]? <;> simp
 refine ⟨by simp; omega, by simp; omega, fun i hi => ?_, fun i hi j hj m hm => ?_⟩
 ·
  obtain ⟨a, ha, hb⟩ := Qiu (hn i (by simpa using hi))
  rw [hl, ha]; simpa using hb
 ·
  have hi' : i < l.length := by simpa using hi
  have ho := hn i hi'
  obtain ⟨a, ha, hb⟩ := Qiu ho
  simp only [okAt, Bool.and_eq_true, List.all_eq_true, List.mem_range, Bool.or_eq_true, Bool.not_eq_true', beq_iff_eq] at ho
  rw [hl] at hj hm ⊢
  have hji : j < i := by rw [ha] at hj; exact Qfh hb (by simpa using hj)
  rcases ho.2 j hji with hz | hz
  ·
   rw [hj] at hz; cases hz
  ·
   exact Qj2.mp hz m hm
theorem Qes {p : List Nat} (g : Good p) : Qel (toI p) = true := by
 simp only [Qel, Bool.and_eq_true, Qd8, List.all_eq_true, List.mem_range'_1, toI_len]
 have hl : ∀ i, (toI p).getD i 0 = (less p i : Int) := fun i => by
  have := Qft p i
  simpa [rd] using this
 have gp := g.pos
 have gl := g.le
 refine ⟨⟨by omega, by omega⟩, fun i hi => ?_⟩
 have hi' : i < p.length := by omega
 have h1 := g.lt i hi'
 simp only [okAt, Bool.and_eq_true, Qd8, List.all_eq_true, List.mem_range, Bool.or_eq_true, Bool.not_eq_true', beq_iff_eq, hl, Int.toNat_natCast]
 refine ⟨⟨by omega, by omega⟩, fun j hj => ?_⟩
 cases hb : (less p i).testBit j
 ·
  exact .inl rfl
 ·
  exact .inr (Qj2.mpr fun m hm => g.tr i hi' j hb m hm)
def Qdk (m : Nat) : List Nat := (List.range 10).filter fun e => m.testBit e
theorem Qhq {m e : Nat} : e ∈ Qdk m ↔ e < 10 ∧ m.testBit e = true := by simp [Qdk]
theorem Qho (m : Nat) : (Qdk m).length ≤ 10 := by
 have := List.length_filter_le (fun e => m.testBit e) (List.range 10)
 simpa [Qdk] using this
def Qdt {α : Type} (n s : Nat) (f : α → Nat → α) (a : α) : α := (List.range n).foldl (fun a e => if s.testBit e = true then f a e else a) a
theorem Qlt {α : Type} (s : Nat) (f : α → Nat → α) (a : α) : (Qdk s).foldl f a = Qdt 10 s f a := by
 unfold Qdk Qdt; rw [List.foldl_filter]
theorem Qi8 {α : Type} (s : Nat) (f : α → Nat → α) : ∀ (l : List Nat) (a : α), (∀ e ∈ l, s.testBit e = false) → l.foldl (fun a e => if s.testBit e = true then f a e else a) a = a
 | [], _, _ => rfl
 | x :: l, a, h => by
  rw [List.foldl_cons, if_neg (by rw [h x List.mem_cons_self]; simp)]
  exact Qi8 s f l a fun e he => h e (List.mem_cons_of_mem _ he)
theorem Qls {α : Type} {n m s : Nat} (f : α → Nat → α) (a : α) (h : s < 2 ^ n) (hm : n ≤ m) : Qdt m s f a = Qdt n s f a := by
 unfold Qdt
 obtain ⟨d, rfl⟩ := Nat.exists_eq_add_of_le hm
 rw [List.range_add, List.foldl_append]
 apply Qi8
 intro e he
 simp only [List.mem_map, List.mem_range] at he
 obtain ⟨x, _, rfl⟩ := he
 exact Nat.testBit_lt_two_pow (Nat.lt_of_lt_of_le h (Nat.pow_le_pow_right (by decide) (by omega)))
theorem Qha {α : Type} {n s : Nat} (f : α → Nat → α) (a : α) (h : s < 2 ^ n) (hn : n ≤ 10) : (Qdk s).foldl f a = Qdt n s f a := by
 rw [Qlt, Qls f a h hn]
theorem Qf3 {α : Type} (n s : Nat) (f : α → Nat → α) (a : α) : Qdt (n + 1) s f a = if s.testBit n = true then f (Qdt n s f a) n else Qdt n s f a := by
 unfold Qdt; rw [List.range_succ, List.foldl_append]; rfl
theorem Qgc {α : Type} (n s : Nat) (f : α → Nat → α) (a : α) (I : α → Prop) (h0 : I a) (h : ∀ a e, I a → e < n → s.testBit e = true → I (f a e)) : I (Qdt n s f a) := by
 induction n with
 | zero => exact h0
 | succ n ih =>
  have ih := ih fun a e ha he hs => h a e ha (by omega) hs
  rw [Qf3]
  split
  ·
   exact h _ _ ih (by omega) (by assumption)
  ·
   exact ih
def full (p : List Nat) : Nat := 2 ^ p.length - 1
theorem Qjw (p : List Nat) : full p < 2 ^ p.length := by have := Nat.two_pow_pos p.length; unfold full; omega
theorem full_bit (p : List Nat) (i : Nat) : (full p).testBit i = decide (i < p.length) := by unfold full; rw [Nat.testBit_two_pow_sub_one]
def Qe6 (p : List Nat) (s : Nat) : Nat := Qdt p.length s (fun o e => o ||| less p e) s
theorem close_lt {p : List Nat} (g : Good p) {s : Nat} (h : s < 2 ^ p.length) : Qe6 p s < 2 ^ p.length :=
 Qgc _ _ _ _ (· < 2 ^ p.length) h (fun a e ha _ _ => Nat.or_lt_two_pow ha (g.lt10 e))
theorem Qi7 (p : List Nat) (s a i : Nat) : ∀ n, (Qdt n s (fun o e => o ||| less p e) a).testBit i = true ↔ (a.testBit i = true ∨ ∃ e, e < n ∧ s.testBit e = true ∧ (less p e).testBit i = true)
 | 0 => by simp [Qdt]
 | n + 1 => by
  rw [Qf3]
  have ih := Qi7 p s a i n
  split
  ·
   rename_i hs
   rw [Nat.testBit_or, Bool.or_eq_true, ih]
   constructor
   ·
    rintro ((h | ⟨e, h1, h2, h3⟩) | h)
    ·
     exact .inl h
    ·
     exact .inr ⟨e, by omega, h2, h3⟩
    ·
     exact .inr ⟨n, by omega, hs, h⟩
   ·
    rintro (h | ⟨e, h1, h2, h3⟩)
    ·
     exact .inl (.inl h)
    ·
     by_cases he : e = n
     ·
      subst he; exact .inr h3
     ·
      exact .inl (.inr ⟨e, by omega, h2, h3⟩)
  ·
   rename_i hs
   rw [ih]
   constructor
   ·
    rintro (h | ⟨e, h1, h2, h3⟩)
    ·
     exact .inl h
    ·
     exact .inr ⟨e, by omega, h2, h3⟩
   ·
    rintro (h | ⟨e, h1, h2, h3⟩)
    ·
     exact .inl h
    ·
     by_cases he : e = n
     ·
      subst he; exact absurd h2 hs
     ·
      exact .inr ⟨e, by omega, h2, h3⟩
theorem Qhk {p : List Nat} {s i : Nat} (h : s < 2 ^ p.length) : (Qe6 p s).testBit i = true ↔ (s.testBit i = true ∨ ∃ e, s.testBit e = true ∧ (less p e).testBit i = true) := by
 unfold Qe6; rw [Qi7]
 constructor
 ·
  rintro (h1 | ⟨e, _, h1⟩)
  ·
   exact .inl h1
  ·
   exact .inr ⟨e, h1⟩
 ·
  rintro (h1 | ⟨e, h1⟩)
  ·
   exact .inl h1
  ·
   exact .inr ⟨e, Qfh h h1.1, h1⟩
def IsId (p : List Nat) (s : Nat) : Prop := s < 2 ^ p.length ∧ ∀ e, s.testBit e = true → ∀ i, (less p e).testBit i = true → s.testBit i = true
def Qea (p : List Nat) (s : Nat) : Bool := (List.range' 0 p.length).all fun e => !(s.testBit e) || sd (less p e) s == 0
theorem Qeg {p : List Nat} {s : Nat} (h : s < 2 ^ p.length) : Qea p s = true ↔ IsId p s := by
 simp only [Qea, IsId, List.all_eq_true, List.mem_range'_1, Bool.or_eq_true, Bool.not_eq_true', beq_iff_eq, Qj2]
 constructor
 ·
  intro h1
  refine ⟨h, fun e he => ?_⟩
  rcases h1 e ⟨by omega, by have := Qfh h he; omega⟩ with h2 | h2
  ·
   rw [he] at h2; cases h2
  ·
   exact h2
 ·
  rintro ⟨_, h1⟩ e _
  cases he : s.testBit e
  ·
   exact .inl rfl
  ·
   exact .inr (h1 e he)
theorem Qhl {p : List Nat} {s : Nat} (h : s < 2 ^ p.length) : Qe6 p s = s ↔ IsId p s := by
 constructor
 ·
  intro hc
  refine ⟨h, fun e he i hi => ?_⟩
  rw [← hc]; exact (Qhk h).mpr (.inr ⟨e, he, hi⟩)
 ·
  rintro ⟨_, hi⟩
  apply Nat.eq_of_testBit_eq
  intro i
  rw [Bool.eq_iff_iff, Qhk h]
  constructor
  ·
   rintro (h1 | ⟨e, h1, h2⟩)
   ·
    exact h1
   ·
    exact hi e h1 i h2
  ·
   exact .inl
theorem Qm6 {p : List Nat} {s : Nat} (h : s < 2 ^ p.length) : (Qe6 p s == s) = Qea p s := by
 rw [Bool.eq_iff_iff, beq_iff_eq, Qhl h, Qeg h]
end Go.Proofs.YtkgngggppcmpfaaGreat.M
end
section
namespace Go.Proofs.YtkgngggppcmpfaaGreat.M
open Go.RowKit Go.Proofs.YtkgngggppcmpfaaGreatW.PrintWords Go.Proofs.YtkgngggppcmpfaaGreatW.PrintLast Go.Proofs.YtkgngggppcmpfaaGreatW.PrintMore Go.Proofs.YtkgngggppcmpfaaGreat.L
def marks (q : Nat) (n : Nat) : List Int := (List.range' q n).map Int.ofNat
theorem Qgu (x lo hi : Int) : Qct.f x lo hi = some (inB x lo hi) := by
 unfold Qct.f inB
 by_cases h : lo ≤ x <;> simp [h]
theorem Qff (x lo hi : Int) : Qcs.f x lo hi = some (inB x lo hi) := by
 unfold Qcs.f inB
 by_cases h : lo ≤ x <;> simp [h]
end Go.Proofs.YtkgngggppcmpfaaGreat.M
end
section
namespace Go.Proofs.YtkgngggppcmpfaaGreat.M
open Go.RowKit Go.Proofs.YtkgngggppcmpfaaGreatW.PrintWords Go.Proofs.YtkgngggppcmpfaaGreatW.PrintLast Go.Proofs.YtkgngggppcmpfaaGreatW.PrintMore Go.Proofs.YtkgngggppcmpfaaGreat.L
set_option linter.unusedVariables false
theorem has_eq {s e : Nat} (hs : s < 2 ^ 63) (he : e ≤ 64) : Qe7.f (s : Int) (e : Int) = some (s.testBit e) := by
 unfold Qe7.f; rw [if_pos (by omega), bit_and hs he]
theorem Qh8 {s e : Nat} (he : e ≤ 64) : Qdr.f (s : Int) (e : Int) = some (s.testBit e) := by
 unfold Qdr.f; rw [if_pos (by omega), Ql3 he]
theorem Qiq (s : Nat) (hs : s < 2 ^ 63) : ∀ (d i : Nat) (acc : List Nat), i + d = 10 → acc.length ≤ i → Ev (fun k => Qbw.l0 k (s : Int) (toI acc) (i : Int)) (toI (acc ++ (List.range' i d).filter fun e => s.testBit e))
 | 0, i, acc, h, ha => by
  refine Ev.step (fun _ => Qbw.l0.eq_2 ..) (Qbh (by omega) ?_)
  simpa using Ev.now _
 | d + 1, i, acc, h, ha => by
  refine Ev.step (fun _ => Qbw.l0.eq_2 ..) (Qk (by omega) (Qbk (has_eq hs (by omega)) ?_))
  rw [Qca (by omega), List.range'_succ]
  refine Qc6 (fun e => Qk (by rw [toI_len]; omega) ?_) (fun e => ?_)
  ·
   rw [← Qg0, ← Qf9, List.filter_cons_of_pos e]
   have := Qiq s hs d (i + 1) (acc ++ [i]) (by omega) (by simp; omega)
   simpa using this
  ·
   rw [List.filter_cons_of_neg e]
   exact Qiq s hs d (i + 1) acc (by omega) (by omega)
theorem Qip {s : Nat} (hs : s < 2 ^ 63) : Ev (fun k => Qbw.f k (s : Int)) (toI (Qdk s)) := by
 have h := Qiq s hs 10 0 [] (by omega) (by simp)
 rw [List.nil_append, ← List.range_eq_range'] at h
 exact h
theorem n_eq (l : List Int) : Qdu.f l = some (l.length : Int) := rfl
theorem Qks {p : List Nat} (h : p.length ≤ 10) : Qc9.f (toI p) = some ((full p : Nat) : Int) := by
 unfold Qc9.f
 rw [n_eq, Option.bind_some, if_pos (by omega), toI_len, Qgg (by omega)]; rfl
theorem Qna {m i : Nat} (hm : m < 2 ^ i) (hi : i ≤ 10) (g : Nat → Bool) : (Qdk m).all g = (List.range i).all fun j => !(m.testBit j) || g j := by
 rw [Bool.eq_iff_iff]
 simp only [List.all_eq_true, Qhq, List.mem_range, Bool.or_eq_true, Bool.not_eq_true']
 constructor
 ·
  intro h j hj
  cases hb : m.testBit j
  ·
   exact .inl rfl
  ·
   exact .inr (h j ⟨by omega, hb⟩)
 ·
  rintro h j ⟨_, hb⟩
  rcases h j (Qfh hm hb) with h2 | h2
  ·
   rw [hb] at h2; cases h2
  ·
   exact h2
theorem Qfc {i : Nat} (h : i ≤ 10) : 2 ^ i ≤ 1024 := by
 have := Nat.pow_le_pow_right (n := 2) (by decide) h
 simpa using this
theorem Qh9 (l : List Int) (i : Nat) : rd l (i : Int) = l.getD i 0 := by simp [rd]
theorem Qjd (l : List Int) (i m : Nat) (R : Bool) (hl : l.length ≤ 10) (hi : i < l.length) (hm : m < 2 ^ i) (ok : ∀ j, j < i → ∃ a : Nat, l.getD j 0 = (a : Int) ∧ a < 2 ^ j)
  (hR : Ev (fun k => Qy.l0 k l (l.length : Int) ((i + 1 : Nat) : Int) l) R) : ∀ (d q : Nat), q + d = (Qdk m).length →
  Ev (fun k => Qy.l1 k (m : Int) l (l.length : Int) (i : Int) (toI (Qdk m)) ((toI (Qdk m)).length : Int) (q : Int) l) (((Qdk m).drop q).all (fun j => sd (l.getD j 0).toNat m == 0) && R)
 | 0, q, h => by
  refine Ev.step (fun _ => Qy.l1.eq_2 ..) (Qbh (by rw [toI_len]; omega) ?_)
  rw [List.drop_of_length_le (by omega), List.all_nil, Bool.true_and, Qca (by omega)]
  exact hR
 | d + 1, q, h => by
  have hq : q < (Qdk m).length := by omega
  have hj : (Qdk m)[q] ∈ Qdk m := List.getElem_mem hq
  obtain ⟨_, hb⟩ := Qhq.mp hj
  have hji := Qfh hm hb
  obtain ⟨a, ha, ha2⟩ := ok _ hji
  have e1 : rd (toI (Qdk m)) (q : Int) = (((Qdk m)[q] : Nat) : Int) := by rw [Qeq]; simp [List.getD_eq_getElem?_getD, hq]
  have hlen := Qho m
  have hp1 := Qfc (show i ≤ 10 by omega)
  have hp2 := Qfc (show (Qdk m)[q] ≤ 10 by omega)
  refine Ev.step (fun _ => Qy.l1.eq_2 ..) ?_
  rw [e1]
  refine Qk (by rw [toI_len]; omega) (Qk (by omega) (Qk (by rw [toI_len]; omega) (Qk (by omega) (Qk (by omega) ?_))))
  rw [Qh9, ha, Qey (lt63 ha2 (by omega)) (lt63 hm (by omega)), Qca (by omega), List.drop_eq_getElem_cons hq, List.all_cons, ha, Int.toNat_natCast]
  refine Qc6 (fun e => ?_) (fun e => ?_)
  ·
   have e' : sd a m = 0 := by omega
   rw [e', beq_self_eq_true, Bool.true_and]
   exact Qjd l i m R hl hi hm ok hR d (q + 1) (by omega)
  ·
   have e' : (sd a m == 0) = false := by rw [beq_eq_false_iff_ne]; omega
   rw [e', Bool.false_and, Bool.false_and]
   exact Ev.now _
theorem Qjc (l : List Int) (hl : l.length ≤ 10) : ∀ (d i : Nat), i + d = l.length → (∀ j, j < i → ∃ a : Nat, l.getD j 0 = (a : Int) ∧ a < 2 ^ j) →
  Ev (fun k => Qy.l0 k l (l.length : Int) (i : Int) l) ((List.range' i d).all (okAt l))
 | 0, i, h, ok => by
  refine Ev.step (fun _ => Qy.l0.eq_2 ..) (Qbh (by omega) ?_)
  exact Ev.now _
 | d + 1, i, h, ok => by
  have hp1 := Qfc (show i ≤ 10 by omega)
  have hpos := Nat.two_pow_pos i
  refine Ev.step (fun _ => Qy.l0.eq_2 ..) (Qk (by omega) (Qk (by omega) (Qk (by omega) (Qbk (Qff _ _ _) ?_))))
  rw [Qh9, Qgg (by omega), List.range'_succ, List.all_cons, Qla l i]
  refine Qc6 (fun e => ?_) (fun e => ?_)
  ·
   have b := Qd8.mp e
   obtain ⟨m, hm⟩ : ∃ m : Nat, l.getD i 0 = (m : Int) := ⟨(l.getD i 0).toNat, by omega⟩
   rw [e, Bool.true_and, hm]
   have hm2 : m < 2 ^ i := by omega
   refine Ev.bind (Qip (lt63 hm2 (by omega))) ?_
   have hnx := Qjc l hl d (i + 1) (by omega) (fun j hj => by
    by_cases hji : j = i
    ·
     subst hji; exact ⟨m, hm, hm2⟩
    ·
     exact ok j (by omega))
   have := Qjd l i m _ hl (by omega) hm2 ok hnx (Qdk m).length 0 (by omega)
   rw [List.drop_zero, Qna hm2 (by omega)] at this
   simpa using this
  ·
   rw [Bool.eq_false_iff.mpr e, Bool.false_and, Bool.false_and]
   exact Ev.now _
theorem Qdw (l : List Int) : Ev (fun k => Qy.f k l) (Qel l) := by
 refine Qbk (n_eq l) (Qbk (Qff _ _ _) ?_)
 unfold Qel
 refine Qc6 (fun e => ?_) (fun e => ?_)
 ·
  have b := Qd8.mp e
  rw [e, Bool.true_and]
  exact Qjc l (by omega) l.length 0 (by omega) (fun j hj => by omega)
 ·
  rw [Bool.eq_false_iff.mpr e, Bool.false_and]; exact Ev.now _
theorem Qkf (l : List Int) (i m : Nat) (R : Bool) (hl : l.length ≤ 10) (hi : i < l.length) (hm : m < 2 ^ i) (ok : ∀ j, j < i → ∃ a : Nat, l.getD j 0 = (a : Int) ∧ a < 2 ^ j)
  (hR : Ev (fun k => Qn.l0 k l (l.length : Int) ((i + 1 : Nat) : Int) l) R) : ∀ (d j : Nat), j + d = i →
  Ev (fun k => Qn.l1 k (i : Int) (m : Int) (j : Int) l (l.length : Int) (i : Int) l) ((List.range' j d).all (fun j => !(m.testBit j) || sd (l.getD j 0).toNat m == 0) && R)
 | 0, j, h => by
  refine Ev.step (fun _ => Qn.l1.eq_2 ..) (Qbh (by omega) ?_)
  rw [Qca (by omega)]
  simpa using hR
 | d + 1, j, h => by
  obtain ⟨a, ha, ha2⟩ := ok j (by omega)
  have hp1 := Qfc (show i ≤ 10 by omega)
  have hp2 := Qfc (show j ≤ 10 by omega)
  have ih := Qkf l i m R hl hi hm ok hR d (j + 1) (by omega)
  refine Ev.step (fun _ => Qn.l1.eq_2 ..) (Qk (by omega) (Qk (by omega) ?_))
  rw [Qca (by omega), List.range'_succ, List.all_cons, Qh9, ha, Qey (lt63 ha2 (by omega)) (lt63 hm (by omega)), Int.toNat_natCast]
  refine Qc6 (fun e => ?_) (fun e => ?_)
  ·
   rw [Qkv (by omega)] at e
   rw [e, Bool.not_true, Bool.false_or]
   refine Qk (by omega) (Qc6 (fun e => ?_) (fun e => ?_))
   ·
    have e' : sd a m = 0 := by omega
    rw [e', beq_self_eq_true, Bool.true_and]; exact ih
   ·
    have e' : (sd a m == 0) = false := by rw [beq_eq_false_iff_ne]; omega
    rw [e', Bool.false_and, Bool.false_and]; exact Ev.now _
  ·
   rw [Qkv (by omega)] at e
   rw [Bool.eq_false_iff.mpr e, Bool.not_false, Bool.true_or, Bool.true_and]; exact ih
theorem Qke (l : List Int) (hl : l.length ≤ 10) : ∀ (d i : Nat), i + d = l.length → (∀ j, j < i → ∃ a : Nat, l.getD j 0 = (a : Int) ∧ a < 2 ^ j) →
  Ev (fun k => Qn.l0 k l (l.length : Int) (i : Int) l) ((List.range' i d).all (okAt l))
 | 0, i, h, ok => by
  refine Ev.step (fun _ => Qn.l0.eq_2 ..) (Qbh (by omega) ?_)
  exact Ev.now _
 | d + 1, i, h, ok => by
  have hp1 := Qfc (show i ≤ 10 by omega)
  have hpos := Nat.two_pow_pos i
  refine Ev.step (fun _ => Qn.l0.eq_2 ..) (Qk (by omega) (Qk (by omega) (Qk (by omega) (Qbk (Qgu _ _ _) ?_))))
  rw [Qh9, Qgg (by omega), List.range'_succ, List.all_cons, Qla l i]
  refine Qc6 (fun e => ?_) (fun e => ?_)
  ·
   have b := Qd8.mp e
   obtain ⟨m, hm⟩ : ∃ m : Nat, l.getD i 0 = (m : Int) := ⟨(l.getD i 0).toNat, by omega⟩
   rw [e, Bool.true_and, hm]
   have hm2 : m < 2 ^ i := by omega
   have hnx := Qke l hl d (i + 1) (by omega) (fun j hj => by
    by_cases hji : j = i
    ·
     subst hji; exact ⟨m, hm, hm2⟩
    ·
     exact ok j (by omega))
   have := Qkf l i m _ hl (by omega) hm2 ok hnx i 0 (by omega)
   simpa [List.range_eq_range'] using this
  ·
   rw [Bool.eq_false_iff.mpr e, Bool.false_and, Bool.false_and]
   exact Ev.now _
theorem Qdg (l : List Int) : Ev (fun k => Qn.f k l) (Qel l) := by
 refine Qbk (Qgu _ _ _) ?_
 unfold Qel
 refine Qc6 (fun e => ?_) (fun e => ?_)
 ·
  have b := Qd8.mp e
  rw [e, Bool.true_and]
  exact Qke l (by omega) l.length 0 (by omega) (fun j hj => by omega)
 ·
  rw [Bool.eq_false_iff.mpr e, Bool.false_and]; exact Ev.now _
def setB (l : List Int) (s : Int) : Bool := Qel l && inB s 0 ((2 ^ l.length - 1 : Nat) : Int)
def idB (l : List Int) (s : Int) : Bool := setB l s && Qea (l.map Int.toNat) s.toNat
theorem Qia {l : List Int} {s : Int} (h : setB l s = true) : ∃ (p : List Nat) (t : Nat), l = toI p ∧ s = (t : Int) ∧ Good p ∧ t < 2 ^ p.length := by
 simp only [setB, Bool.and_eq_true, Qd8] at h
 obtain ⟨p, rfl, g⟩ := Qee h.1
 have := Nat.two_pow_pos p.length
 rw [toI_len] at h
 exact ⟨p, s.toNat, rfl, by omega, g, by omega⟩
theorem Qgo (p : List Nat) : (toI p).map Int.toNat = p := by
 simp only [toI, List.map_map]
 exact (List.map_congr_left (fun x _ => by simp)).trans (List.map_id p)
theorem idB_of {l : List Int} {s : Int} (h : idB l s = true) : ∃ (p : List Nat) (t : Nat), l = toI p ∧ s = (t : Int) ∧ Good p ∧ IsId p t := by
 simp only [idB, Bool.and_eq_true] at h
 obtain ⟨p, t, rfl, rfl, g, ht⟩ := Qia h.1
 have h2 := h.2
 rw [Qgo, Int.toNat_natCast] at h2
 exact ⟨p, t, rfl, rfl, g, (Qeg ht).mp h2⟩
theorem setB_mk {p : List Nat} {t : Nat} (g : Good p) (ht : t < 2 ^ p.length) : setB (toI p) (t : Int) = true := by
 simp only [setB, Bool.and_eq_true, Qd8, toI_len]
 exact ⟨Qes g, by omega, by omega⟩
theorem idB_mk {p : List Nat} {t : Nat} (g : Good p) (ht : IsId p t) : idB (toI p) (t : Int) = true := by
 simp only [idB, Bool.and_eq_true]
 refine ⟨setB_mk g ht.1, ?_⟩
 rw [Qgo, Int.toNat_natCast]; exact (Qeg ht.1).mpr ht
theorem Good.len63 {p : List Nat} (g : Good p) {s : Nat} (h : s < 2 ^ p.length) : s < 2 ^ 63 := M.lt63 h (by have := g.le; omega)
theorem Qio (l : List Int) (s : Int) : Ev (fun k => Qdn.f k l s) (setB l s) := by
 refine Ev.bind (Qdw l) ?_
 unfold setB
 refine Qc6 (fun e => ?_) (fun e => ?_)
 ·
  obtain ⟨p, rfl, g⟩ := Qee e
  rw [e, Bool.true_and, toI_len]
  exact Qbk (Qks g.le) (Qbk (Qff _ _ _) (Ev.now _))
 ·
  rw [Bool.eq_false_iff.mpr e, Bool.false_and]; exact Ev.now _
theorem Qka {m q : Nat} (hq : q < (Qdk m).length) : (Qdk m)[q] < 10 ∧ m.testBit (Qdk m)[q] = true := Qhq.mp (List.getElem_mem hq)
theorem Qlj {m q : Nat} (hq : q < (Qdk m).length) : rd (toI (Qdk m)) (q : Int) = (((Qdk m)[q] : Nat) : Int) := by rw [Qeq]; simp [List.getD_eq_getElem?_getD, hq]
theorem Qkw {p : List Nat} (g : Good p) (s : Nat) (hs : s < 2 ^ p.length) : ∀ (d q a : Nat), q + d = (Qdk s).length → a < 2 ^ p.length →
  Ev (fun k => Q9.l0 k (a : Int) (toI (Qdk s)) ((toI (Qdk s)).length : Int) (q : Int) (toI p)) (((((Qdk s).drop q).foldl (fun o e => o ||| less p e) a : Nat)) : Int)
 | 0, q, a, h, ha => by
  refine Ev.step (fun _ => Q9.l0.eq_2 ..) (Qbh (by rw [toI_len]; omega) ?_)
  rw [List.drop_of_length_le (by omega)]; exact Ev.now _
 | d + 1, q, a, h, ha => by
  have hq : q < (Qdk s).length := by omega
  have hm := Qka hq
  have hb := Qfh hs hm.2
  have hl := Qho s
  refine Ev.step (fun _ => Q9.l0.eq_2 ..) ?_
  rw [Qlj hq, toI_len, toI_len]
  refine Qk (by omega) (Qk (by omega) (Qk (by omega) (Qk (by omega) (Qk (by omega) ?_))))
  rw [Qft, Qh2 (g.len63 ha) (g.lt63 _), Qca (by omega), List.drop_eq_getElem_cons hq, List.foldl_cons, ← toI_len]
  exact Qkw g s hs d (q + 1) _ (by omega) (Nat.or_lt_two_pow ha (g.lt10 _))
theorem Qim {p : List Nat} (g : Good p) {s : Nat} (hs : s < 2 ^ p.length) : Ev (fun k => Q9.f k (toI p) (s : Int)) ((Qe6 p s : Nat) : Int) := by
 refine Ev.bind (Qip (g.len63 hs)) ?_
 have h := Qkw g s hs (Qdk s).length 0 s (by omega) hs
 rw [List.drop_zero, Qha _ _ hs g.le] at h
 exact h
theorem Qg5 (l : List Int) (s : Int) : Ev (fun k => Qc0.f k l s) (idB l s) := by
 refine Ev.bind (Qio l s) ?_
 unfold idB
 refine Qc6 (fun e => ?_) (fun e => ?_)
 ·
  obtain ⟨p, t, rfl, rfl, g, ht⟩ := Qia e
  rw [e, Bool.true_and, Qgo, Int.toNat_natCast, ← Qm6 ht]
  refine Ev.bind (Qim g ht) ?_
  have : (((Qe6 p t : Nat) : Int) == (t : Int)) = (Qe6 p t == t) := by
   rw [Bool.eq_iff_iff, beq_iff_eq, beq_iff_eq]; omega
  rw [this]; exact Ev.now _
 ·
  rw [Bool.eq_false_iff.mpr e, Bool.false_and]; exact Ev.now _
theorem Qe1 (p : List Nat) (s : Int) (h : p.length ≤ 10) : Qc5.f (toI p) s = some (inB s 0 ((2 ^ p.length - 1 : Nat) : Int)) := by
 unfold Qc5.f; rw [toI_len, Qgg (by omega), Qgu]; rfl
theorem Qjn {p : List Nat} (g : Good p) (s : Nat) (hs : s < 2 ^ p.length) : ∀ (d i : Nat), i + d = p.length →
  Ev (fun k => Qbx.l0 k (s : Int) (toI p) ((toI p).length : Int) (i : Int)) ((List.range' i d).all fun e => !(s.testBit e) || sd (less p e) s == 0)
 | 0, i, h => by
  refine Ev.step (fun _ => Qbx.l0.eq_2 ..) (Qbh (by rw [toI_len]; omega) (Ev.now _))
 | d + 1, i, h => by
  have := g.le
  have ih := Qjn g s hs d (i + 1) (by omega)
  refine Ev.step (fun _ => Qbx.l0.eq_2 ..) ?_
  refine Qk (by rw [toI_len]; omega) (Qk (by omega) (Qk (by rw [toI_len]; omega) (Qbk (Qh8 (by omega)) ?_)))
  rw [Qft, Qey (g.lt63 _) (g.len63 hs), Qca (by omega), List.range'_succ, List.all_cons]
  refine Qc6 (fun e => ?_) (fun e => ?_)
  ·
   rw [e, Bool.not_true, Bool.false_or]
   refine Qc6 (fun e => ?_) (fun e => ?_)
   ·
    have e' : sd (less p i) s = 0 := by omega
    rw [e', beq_self_eq_true, Bool.true_and]; exact ih
   ·
    have e' : (sd (less p i) s == 0) = false := by rw [beq_eq_false_iff_ne]; omega
    rw [e', Bool.false_and]; exact Ev.now _
  ·
   rw [Bool.eq_false_iff.mpr e, Bool.not_false, Bool.true_or, Bool.true_and]; exact ih
theorem Qjm {p : List Nat} (g : Good p) {s : Nat} (hs : s < 2 ^ p.length) : Ev (fun k => Qbx.f k (toI p) (s : Int)) (Qea p s) := Qjn g s hs p.length 0 (by omega)
theorem Qmn (l : List Int) (s : Int) : Ev (fun k => Qd7.f k l s) (idB l s) := by
 refine Ev.bind (Qdg l) ?_
 unfold idB setB
 refine Qc6 (fun e => ?_) (fun e => ?_)
 ·
  obtain ⟨p, rfl, g⟩ := Qee e
  rw [e, Bool.true_and, toI_len, Qgo]
  refine Qbk (Qe1 p s g.le) (Qc6 (fun e => ?_) (fun e => ?_))
  ·
   have b := Qd8.mp e
   have := Nat.two_pow_pos p.length
   obtain ⟨t, rfl⟩ : ∃ t : Nat, s = (t : Int) := ⟨s.toNat, by omega⟩
   rw [e, Bool.true_and, Int.toNat_natCast]
   exact Ev.bind (Qjm g (by omega)) (Ev.now _)
  ·
   rw [Bool.eq_false_iff.mpr e, Bool.false_and]; exact Ev.now _
 ·
  rw [Bool.eq_false_iff.mpr e, Bool.false_and, Bool.false_and]; exact Ev.now _
def tg (p : List Nat) (s e : Nat) : Nat := if Qea p (s ^^^ 2 ^ e) = true then s ^^^ 2 ^ e else s
theorem Qgv {p : List Nat} {e : Nat} (h : e < p.length) : 2 ^ e < 2 ^ p.length := Nat.pow_lt_pow_right (by decide) h
theorem tg_id {p : List Nat} {s e : Nat} (hs : IsId p s) (h : e < p.length) : IsId p (tg p s e) := by
 unfold tg; split
 ·
  rename_i h2; exact (Qeg (Nat.xor_lt_two_pow hs.1 (Qgv h))).mp h2
 ·
  exact hs
theorem Qmq (s e i : Nat) : (s ^^^ 2 ^ e).testBit i = (s.testBit i ^^ decide (e = i)) := by rw [Nat.testBit_xor, Nat.testBit_two_pow]
theorem Qg1 {s e i : Nat} (h : e ≠ i) : (s ^^^ 2 ^ e).testBit i = s.testBit i := by rw [Qmq]; simp [h]
theorem Qh0 (s e : Nat) : (s ^^^ 2 ^ e).testBit e = !s.testBit e := by rw [Qmq]; simp
def Can (p : List Nat) (s e : Nat) : Prop := (s.testBit e = true → ∀ f, s.testBit f = true → (less p f).testBit e = false) ∧ (s.testBit e = false → ∀ f, (less p e).testBit f = true → s.testBit f = true)
theorem can_iff {p : List Nat} (g : Good p) {s e : Nat} (hs : IsId p s) (he : e < p.length) : Qea p (s ^^^ 2 ^ e) = true ↔ Can p s e := by
 rw [Qeg (Nat.xor_lt_two_pow hs.1 (Qgv he))]
 constructor
 ·
  rintro ⟨_, h⟩
  refine ⟨fun h1 f hf => ?_, fun h1 f hf => ?_⟩
  ·
   apply Bool.eq_false_iff.mpr
   intro hc
   have b := g.bit hc
   have := h f (by rw [Qg1 (by omega)]; exact hf) e hc
   rw [Qh0, h1] at this; cases this
  ·
   have b := g.bit hf
   have := h e (by rw [Qh0, h1]; rfl) f hf
   rwa [Qg1 (by omega)] at this
 ·
  rintro ⟨h1, h2⟩
  refine ⟨Nat.xor_lt_two_pow hs.1 (Qgv he), fun f hf i hi => ?_⟩
  have b := g.bit hi
  by_cases c : e = f
  ·
   subst c
   rw [Qh0, Bool.not_eq_true'] at hf
   rw [Qg1 (by omega)]
   exact h2 hf i hi
  ·
   rw [Qg1 c] at hf
   have hsi := hs.2 f hf i hi
   by_cases c2 : e = i
   ·
    subst c2
    rw [h1 hsi f hf] at hi; cases hi
   ·
    rw [Qg1 c2]; exact hsi
theorem tg_ne {p : List Nat} {s e i : Nat} (h : e ≠ i) : (tg p s e).testBit i = s.testBit i := by
 unfold tg; split
 ·
  exact Qg1 h
 ·
  rfl
theorem tg_eq {p : List Nat} (g : Good p) {s e : Nat} (hs : IsId p s) (he : e < p.length) : (tg p s e).testBit e = true ↔ (s.testBit e = true ∧ ∃ f, s.testBit f = true ∧ (less p f).testBit e = true) ∨ (s.testBit e = false ∧ ∀ f, (less p e).testBit f = true → s.testBit f = true) := by
 have hc := can_iff g hs he
 unfold tg
 cases hb : s.testBit e
 ·
  by_cases c : Qea p (s ^^^ 2 ^ e) = true
  ·
   rw [if_pos c, Qh0, hb]
   exact ⟨fun _ => .inr ⟨rfl, (hc.mp c).2 hb⟩, fun _ => rfl⟩
  ·
   rw [if_neg c, hb]
   refine ⟨fun h => (by cases h), fun h => ?_⟩
   rcases h with h | h
   ·
    cases h.1
   ·
    exact absurd (hc.mpr ⟨fun h1 => (by rw [hb] at h1; cases h1), fun _ => h.2⟩) c
 ·
  by_cases c : Qea p (s ^^^ 2 ^ e) = true
  ·
   rw [if_pos c, Qh0, hb]
   refine ⟨fun h => (by cases h), fun h => ?_⟩
   rcases h with ⟨_, f, hf, hl⟩ | h
   ·
    rw [(hc.mp c).1 hb f hf] at hl; cases hl
   ·
    cases h.1
  ·
   rw [if_neg c, hb]
   refine ⟨fun _ => .inl ⟨rfl, ?_⟩, fun _ => rfl⟩
   apply Classical.byContradiction
   intro hn
   refine c (hc.mpr ⟨fun _ f hf => ?_, fun h => by rw [hb] at h; cases h⟩)
   apply Bool.eq_false_iff.mpr
   intro hl
   exact hn ⟨f, hf, hl⟩
def bot (p : List Nat) (u : Nat) : Nat := Qdt p.length u (fun o e => if less p e &&& u = 0 then o ||| 2 ^ e else o) 0
theorem Qkt {a b : Nat} : a &&& b = 0 ↔ ∀ i, a.testBit i = true → b.testBit i = false := by
 constructor
 ·
  intro h i hi
  have : (a &&& b).testBit i = false := by rw [h, Nat.zero_testBit]
  rw [Nat.testBit_and, hi, Bool.true_and] at this; exact this
 ·
  intro h
  apply Nat.eq_of_testBit_eq
  intro i
  rw [Nat.testBit_and, Nat.zero_testBit]
  cases ha : a.testBit i
  ·
   rfl
  ·
   rw [h i ha]; rfl
theorem Qid (c : Nat → Prop) [DecidablePred c] (u a i : Nat) : ∀ n, (Qdt n u (fun o e => if c e then o ||| 2 ^ e else o) a).testBit i = true ↔ (a.testBit i = true ∨ (i < n ∧ u.testBit i = true ∧ c i))
 | 0 => by simp [Qdt]
 | n + 1 => by
  rw [Qf3]
  have ih := Qid c u a i n
  by_cases hu : u.testBit n = true
  ·
   rw [if_pos hu]
   by_cases hc : c n
   ·
    rw [if_pos hc, Nat.testBit_or, Bool.or_eq_true, ih, Nat.testBit_two_pow, decide_eq_true_eq]
    constructor
    ·
     rintro ((h | ⟨h1, h2⟩) | h)
     ·
      exact .inl h
     ·
      exact .inr ⟨by omega, h2⟩
     ·
      subst h; exact .inr ⟨by omega, hu, hc⟩
    ·
     rintro (h | ⟨h1, h2⟩)
     ·
      exact .inl (.inl h)
     ·
      by_cases e : n = i
      ·
       exact .inr e
      ·
       exact .inl (.inr ⟨by omega, h2⟩)
   ·
    rw [if_neg hc, ih]
    refine or_congr_right ⟨fun h => ⟨by omega, h.2⟩, fun h => ⟨?_, h.2⟩⟩
    have : i ≠ n := fun e => by subst e; exact hc h.2.2
    omega
  ·
   rw [if_neg hu, ih]
   refine or_congr_right ⟨fun h => ⟨by omega, h.2⟩, fun h => ⟨?_, h.2⟩⟩
   have : i ≠ n := fun e => by subst e; exact hu h.2.1
   omega
theorem bot_bit {p : List Nat} {u : Nat} (hu : u < 2 ^ p.length) (i : Nat) : (bot p u).testBit i = true ↔ u.testBit i = true ∧ ∀ j, (less p i).testBit j = true → u.testBit j = false := by
 unfold bot
 rw [Qid (fun e => less p e &&& u = 0), Nat.zero_testBit]
 constructor
 ·
  rintro (h | ⟨h1, h2, h3⟩)
  ·
   cases h
  ·
   exact ⟨h2, Qkt.mp h3⟩
 ·
  rintro ⟨h1, h2⟩
  exact .inr ⟨Qfh hu h1, h1, Qkt.mpr h2⟩
theorem put_lt {n : Nat} (c : Nat → Prop) [DecidablePred c] (u : Nat) : Qdt n u (fun o e => if c e then o ||| 2 ^ e else o) 0 < 2 ^ n :=
 Qgc _ _ _ _ (· < 2 ^ n) (Nat.two_pow_pos _) (fun a e ha he _ => by
  split
  ·
   exact Nat.or_lt_two_pow ha (Nat.pow_lt_pow_right (by decide) he)
  ·
   exact ha)
theorem Qi3 {p : List Nat} (u : Nat) : bot p u < 2 ^ p.length := put_lt _ u
def row (p : List Nat) (s : Nat) : Nat := Qe6 p (bot p (sd (full p) s))
theorem co_lt {p : List Nat} (s : Nat) : sd (full p) s < 2 ^ p.length := sd_lt s (Qjw p)
theorem co_bit {p : List Nat} {s i : Nat} : (sd (full p) s).testBit i = true ↔ i < p.length ∧ s.testBit i = false := by
 rw [Qhy, full_bit, Bool.and_eq_true, decide_eq_true_eq, Bool.not_eq_true']
theorem row_lt {p : List Nat} (g : Good p) (s : Nat) : row p s < 2 ^ p.length := close_lt g (Qi3 _)
theorem Qgy {p : List Nat} (g : Good p) {s : Nat} (hs : IsId p s) (i : Nat) : (row p s).testBit i = true ↔ ∃ e, e < p.length ∧ s.testBit e = false ∧ (∀ j, (less p e).testBit j = true → s.testBit j = true) ∧ (e = i ∨ (less p e).testBit i = true) := by
 unfold row
 rw [Qhk (Qi3 _)]
 have hb : ∀ e, (bot p (sd (full p) s)).testBit e = true ↔ e < p.length ∧ s.testBit e = false ∧ (∀ j, (less p e).testBit j = true → s.testBit j = true) := by
  intro e
  rw [bot_bit (co_lt s), co_bit, and_assoc]
  refine and_congr_right fun h1 => and_congr_right fun h2 => forall_congr' fun j => forall_congr' fun hj => ?_
  have b := g.bit hj
  rw [← Bool.not_eq_true, co_bit, not_and, Bool.not_eq_false]
  exact ⟨fun h => h (by omega), fun h _ => h⟩
 constructor
 ·
  rintro (h | ⟨e, h, hl⟩)
  ·
   have := (hb i).mp h
   exact ⟨i, this.1, this.2.1, this.2.2, .inl rfl⟩
  ·
   have := (hb e).mp h
   exact ⟨e, this.1, this.2.1, this.2.2, .inr hl⟩
 ·
  rintro ⟨e, h1, h2, h3, h4⟩
  rcases h4 with h4 | h4
  ·
   subst h4; exact .inl ((hb e).mpr ⟨h1, h2, h3⟩)
  ·
   exact .inr ⟨e, (hb e).mpr ⟨h1, h2, h3⟩, h4⟩
theorem Qhx {p : List Nat} (g : Good p) {s : Nat} (hs : IsId p s) : IsId p (row p s) := by
 refine ⟨row_lt g s, fun e he i hi => ?_⟩
 rw [Qgy g hs] at he ⊢
 obtain ⟨f, h1, h2, h3, h4⟩ := he
 refine ⟨f, h1, h2, h3, .inr ?_⟩
 rcases h4 with h4 | h4
 ·
  rw [h4]; exact hi
 ·
  exact g.tr' h4 hi
structure Mid (p : List Nat) (s t : Nat) (P : Nat → Prop) (x : Nat) : Prop where
 id : IsId p x
 on : ∀ i, i < p.length → P i → x.testBit i = t.testBit i
 off : ∀ i, i < p.length → ¬ P i → x.testBit i = s.testBit i
theorem Mid.step {p : List Nat} {s t x i : Nat} {P Q : Nat → Prop} (I : Mid p s t P x) (hi : i < p.length) (hQ : ∀ k, k < p.length → (Q k ↔ P k ∨ k = i)) (h : (tg p x i).testBit i = t.testBit i) : Mid p s t Q (tg p x i) := by
 refine ⟨tg_id I.id hi, fun k hk hq => ?_, fun k hk hq => ?_⟩
 ·
  by_cases c : i = k
  ·
   subst c; exact h
  ·
   rw [tg_ne c]
   rcases (hQ k hk).mp hq with h | h
   ·
    exact I.on k hk h
   ·
    exact absurd h.symm c
 ·
  rw [tg_ne (fun c => hq ((hQ k hk).mpr (.inr c.symm)))]
  exact I.off k hk fun h => hq ((hQ k hk).mpr (.inl h))
theorem Mid.all {p : List Nat} {s t x : Nat} {P : Nat → Prop} (I : Mid p s t P x) (ht : t < 2 ^ p.length) (h : ∀ i, i < p.length → P i) : x = t := by
 apply Nat.eq_of_testBit_eq
 intro i
 by_cases hi : i < p.length
 ·
  exact I.on i hi (h i hi)
 ·
  have big : ∀ y, y < 2 ^ p.length → y.testBit i = false := fun y hy => Nat.testBit_lt_two_pow (Nat.lt_of_lt_of_le hy (Nat.pow_le_pow_right (by decide) (by omega)))
  rw [big x I.id.1, big t ht]
theorem Mid.none {p : List Nat} {s : Nat} (t : Nat) (hs : IsId p s) {P : Nat → Prop} (h : ∀ i, i < p.length → ¬ P i) : Mid p s t P s :=
 ⟨hs, fun i hi hp => absurd hp (h i hi), fun _ _ _ => rfl⟩
theorem Mid.row {p : List Nat} (g : Good p) {s x i : Nat} {P Q : Nat → Prop} (hs : IsId p s) (I : Mid p s (row p s) P x) (hi : i < p.length) (hP : ¬ P i) (up : ∀ k, (less p k).testBit i = true → P k)
  (dn : ∀ j, (less p i).testBit j = true → ¬ P j) (hQ : ∀ k, k < p.length → (Q k ↔ P k ∨ k = i)) : Mid p s (M.row p s) Q (tg p x i) := by
 refine I.step hi hQ ?_
 have xi := I.off i hi hP
 rw [Bool.eq_iff_iff, tg_eq g I.id hi, xi]
 cases hb : s.testBit i
 ·
  constructor
  ·
   rintro (h | ⟨_, h⟩)
   ·
    cases h.1
   ·
    rw [Qgy g hs]
    refine ⟨i, hi, hb, fun j hj => ?_, .inl rfl⟩
    have b := g.bit hj
    rw [← I.off j (by omega) (dn j hj)]; exact h j hj
  ·
   intro h
   rw [Qgy g hs] at h
   obtain ⟨e, h1, h2, h3, h4⟩ := h
   refine .inr ⟨rfl, fun f hf => ?_⟩
   have b := g.bit hf
   rw [I.off f (by omega) (dn f hf)]
   rcases h4 with h4 | h4
   ·
    rw [h4] at h3; exact h3 f hf
   ·
    have := h3 i h4
    rw [hb] at this; cases this
 ·
  constructor
  ·
   rintro (⟨_, f, hf, hl⟩ | h)
   ·
    have b := g.bit hl
    have := I.on f b.2 (up f hl)
    rw [hf] at this
    exact (Qhx g hs).2 f this.symm i hl
   ·
    cases h.1
  ·
   intro h
   rw [Qgy g hs] at h
   obtain ⟨e, h1, h2, h3, h4⟩ := h
   rcases h4 with h4 | h4
   ·
    subst h4; rw [hb] at h2; cases h2
   ·
    refine .inl ⟨rfl, e, ?_, h4⟩
    rw [I.on e h1 (up e h4), Qgy g hs]
    exact ⟨e, h1, h2, h3, .inl rfl⟩
def top (p : List Nat) (s : Nat) : Nat := Qdt p.length s (fun o e => sd o (less p e)) s
theorem top_lt {p : List Nat} {s : Nat} (hs : s < 2 ^ p.length) : top p s < 2 ^ p.length := Qgc _ _ _ _ (· < 2 ^ p.length) hs (fun a e ha _ _ => sd_lt _ ha)
theorem Qk1 {p : List Nat} (g : Good p) {s : Nat} (hs : IsId p s) : (List.range p.length).reverse.foldl (tg p) s = row p s := by
 have : ∀ d n, n + d = p.length → Mid p s (row p s) (n ≤ ·) ((List.range' n d).reverse.foldl (tg p) s) := by
  intro d
  induction d with
  | zero => intro n hn; exact Mid.none _ hs (fun i _ h => by omega)
  | succ d ih =>
   intro n hn
   rw [List.range'_succ, List.reverse_cons, List.foldl_append]
   refine (ih (n + 1) (by omega)).row g hs (by omega) (by omega) (fun k hk => ?_) (fun j hj => ?_) (fun k _ => by omega)
   ·
    have := g.bit hk; omega
   ·
    have := g.bit hj; omega
 have h := this p.length 0 (by omega)
 rw [← List.range_eq_range'] at h
 exact h.all (row_lt g s) (fun i hi => Nat.zero_le _)
theorem Qhj {p : List Nat} (g : Good p) (u : Nat) (hu : u < 2 ^ p.length) : ∀ (d q a : Nat), q + d = (Qdk u).length → a < 2 ^ p.length →
  Ev (fun k => Qbp.l0 k (u : Int) (a : Int) (toI (Qdk u)) ((toI (Qdk u)).length : Int) (q : Int) (toI p)) (((((Qdk u).drop q).foldl (fun o e => if less p e &&& u = 0 then o ||| 2 ^ e else o) a : Nat)) : Int)
 | 0, q, a, h, ha => by
  refine Ev.step (fun _ => Qbp.l0.eq_2 ..) (Qbh (by rw [toI_len]; omega) ?_)
  rw [List.drop_of_length_le (by omega)]; exact Ev.now _
 | d + 1, q, a, h, ha => by
  have gl := g.le
  have hq : q < (Qdk u).length := by omega
  have hm := Qka hq
  have hb := Qfh hu hm.2
  have hl := Qho u
  have h2 := Qgv hb
  refine Ev.step (fun _ => Qbp.l0.eq_2 ..) ?_
  rw [Qlj hq]
  refine Qk (by rw [toI_len]; omega) (Qk (by omega) (Qk (by rw [toI_len]; omega) (Qk (by omega) (Qk (by rw [toI_len]; omega) ?_))))
  rw [Qft, Qil (g.lt63 _) (g.len63 hu), Qca (by omega), Qf8 (by omega), Qh2 (g.len63 ha) (g.len63 h2), List.drop_eq_getElem_cons hq, List.foldl_cons]
  refine Qc6 (fun e => ?_) (fun e => ?_)
  ·
   rw [if_pos (by omega)]
   exact Qhj g u hu d (q + 1) _ (by omega) (Nat.or_lt_two_pow ha h2)
  ·
   rw [if_neg (by omega)]
   exact Qhj g u hu d (q + 1) _ (by omega) ha
theorem Qm3 {p : List Nat} (g : Good p) {u : Nat} (hu : u < 2 ^ p.length) : Ev (fun k => Qbp.f k (toI p) (u : Int)) ((bot p u : Nat) : Int) := by
 refine Ev.bind (Qip (g.len63 hu)) ?_
 have h := Qhj g u hu _ 0 0 (Nat.zero_add _) (Nat.two_pow_pos _)
 rw [List.drop_zero, Qha _ _ hu g.le] at h
 exact h
theorem Qjp {p : List Nat} (g : Good p) {s : Nat} (hs : s < 2 ^ p.length) : Ev (fun k => Qbo.f k (toI p) (s : Int)) ((row p s : Nat) : Int) := by
 refine Qbk (Qks g.le) ?_
 rw [Qey (g.len63 (Qjw p)) (g.len63 hs)]
 exact Ev.bind (Qm3 g (co_lt s)) (Ev.bind (Qim g (Qi3 _)) (Ev.now _))
theorem Qfy {p : List Nat} (g : Good p) (u : Nat) (hu : u < 2 ^ p.length) : ∀ (d i a : Nat), i + d = p.length → a < 2 ^ p.length →
  Ev (fun k => Qb0.l0 k (u : Int) (a : Int) (toI p) ((toI p).length : Int) (i : Int)) (((List.range' i d).foldl (fun o e => if u.testBit e = true then (if less p e &&& u = 0 then o ||| 2 ^ e else o) else o) a : Nat) : Int)
 | 0, i, a, h, ha => Ev.step (fun _ => Qb0.l0.eq_2 ..) (Qbh (by rw [toI_len]; omega) (Ev.now _))
 | d + 1, i, a, h, ha => by
  have gl := g.le
  have h2 := Qgv (p := p) (e := i) (by omega)
  refine Ev.step (fun _ => Qb0.l0.eq_2 ..) (Qk (by rw [toI_len]; omega) (Qk (by omega) (Qk (by rw [toI_len]; omega) (Qbk (Qh8 (by omega)) ?_))))
  rw [Qft, Qil (g.lt63 _) (g.len63 hu), Qca (by omega), Qf8 (by omega), Qh2 (g.len63 ha) (g.len63 h2), List.range'_succ, List.foldl_cons]
  refine Qc6 (fun e => ?_) (fun e => ?_)
  ·
   rw [if_pos e]
   refine Qc6 (fun e => ?_) (fun e => ?_)
   ·
    rw [if_pos (by omega)]; exact Qfy g u hu d (i + 1) _ (by omega) (Nat.or_lt_two_pow ha h2)
   ·
    rw [if_neg (by omega)]; exact Qfy g u hu d (i + 1) _ (by omega) ha
  ·
   rw [if_neg e]; exact Qfy g u hu d (i + 1) _ (by omega) ha
theorem Qlv {p : List Nat} (g : Good p) {u : Nat} (hu : u < 2 ^ p.length) : Ev (fun k => Qb0.f k (toI p) (u : Int)) ((bot p u : Nat) : Int) := by
 have h := Qfy g u hu p.length 0 0 (by omega) (Nat.two_pow_pos _)
 rw [← List.range_eq_range'] at h
 exact h
theorem Qhu {p : List Nat} (g : Good p) (u : Nat) (hu : u < 2 ^ p.length) : ∀ (d i a : Nat), i + d = p.length → a < 2 ^ p.length →
  Ev (fun k => Qby.l0 k (u : Int) (a : Int) (toI p) ((toI p).length : Int) (i : Int)) (((List.range' i d).foldl (fun o e => if u.testBit e = true then o ||| less p e else o) a : Nat) : Int)
 | 0, i, a, h, ha => Ev.step (fun _ => Qby.l0.eq_2 ..) (Qbh (by rw [toI_len]; omega) (Ev.now _))
 | d + 1, i, a, h, ha => by
  have gl := g.le
  refine Ev.step (fun _ => Qby.l0.eq_2 ..) (Qk (by rw [toI_len]; omega) (Qk (by omega) (Qk (by rw [toI_len]; omega) (Qbk (Qh8 (by omega)) ?_))))
  rw [Qft, Qh2 (g.len63 ha) (g.lt63 _), Qca (by omega), List.range'_succ, List.foldl_cons]
  refine Qc6 (fun e => ?_) (fun e => ?_)
  ·
   rw [if_pos e]; exact Qhu g u hu d (i + 1) _ (by omega) (Nat.or_lt_two_pow ha (g.lt10 _))
  ·
   rw [if_neg e]; exact Qhu g u hu d (i + 1) _ (by omega) ha
theorem Qht {p : List Nat} (g : Good p) {u : Nat} (hu : u < 2 ^ p.length) : Ev (fun k => Qby.f k (toI p) (u : Int)) ((Qe6 p u : Nat) : Int) := by
 have h := Qhu g u hu p.length 0 u (by omega) hu
 rw [← List.range_eq_range'] at h
 exact h
theorem Qlo {p : List Nat} (g : Good p) {s : Nat} (hs : s < 2 ^ p.length) : Ev (fun k => Qcm.f k (toI p) (s : Int)) ((row p s : Nat) : Int) := by
 have gl := g.le
 have hf : full p = 2 ^ p.length - 1 := rfl
 unfold Qcm.f
 rw [toI_len, Qgg (by omega), ← hf, Qey (g.len63 (Qjw p)) (g.len63 hs)]
 exact Ev.bind (Qlv g (co_lt s)) (Ev.bind (Qht g (Qi3 _)) (Ev.now _))
theorem Qiv {p : List Nat} (g : Good p) (u : Nat) (hu : u < 2 ^ p.length) : ∀ (d i a : Nat), i + d = p.length → a < 2 ^ p.length →
  Ev (fun k => Qcd.l0 k (u : Int) (a : Int) (toI p) ((toI p).length : Int) (i : Int)) (((List.range' i d).foldl (fun o e => if u.testBit e = true then sd o (less p e) else o) a : Nat) : Int)
 | 0, i, a, h, ha => Ev.step (fun _ => Qcd.l0.eq_2 ..) (Qbh (by rw [toI_len]; omega) (Ev.now _))
 | d + 1, i, a, h, ha => by
  have gl := g.le
  refine Ev.step (fun _ => Qcd.l0.eq_2 ..) (Qk (by rw [toI_len]; omega) (Qk (by omega) (Qk (by rw [toI_len]; omega) (Qbk (Qh8 (by omega)) ?_))))
  rw [Qft, Qey (g.len63 ha) (g.lt63 _), Qca (by omega), List.range'_succ, List.foldl_cons]
  refine Qc6 (fun e => ?_) (fun e => ?_)
  ·
   rw [if_pos e]; exact Qiv g u hu d (i + 1) _ (by omega) (sd_lt _ ha)
  ·
   rw [if_neg e]; exact Qiv g u hu d (i + 1) _ (by omega) ha
theorem poTop_ev {p : List Nat} (g : Good p) {u : Nat} (hu : u < 2 ^ p.length) : Ev (fun k => Qcd.f k (toI p) (u : Int)) ((top p u : Nat) : Int) := by
 have h := Qiv g u hu p.length 0 u (by omega) hu
 rw [← List.range_eq_range'] at h
 exact h
theorem Qi6 {α β : Type} {f : Nat → α → Option β} {r : α → β} : ∀ l : List α, (∀ x ∈ l, Ev (fun k => f k x) (r x)) → ∃ K, ∀ k, K ≤ k → ∀ x ∈ l, f k x = some (r x)
 | [], _ => ⟨0, fun _ _ x hx => absurd hx (by simp)⟩
 | a :: l, h => by
  obtain ⟨K, hK⟩ := Qi6 l fun x hx => h x (List.mem_cons_of_mem _ hx)
  obtain ⟨K', hK'⟩ := h a List.mem_cons_self
  refine ⟨max K K', fun k hk x hx => ?_⟩
  rcases List.mem_cons.mp hx with e | hx
  ·
   subst e; exact hK' k (by omega)
  ·
   exact hK k (by omega) x hx
def idls (p : List Nat) : List Nat := (List.range (2 ^ p.length)).filter (Qea p)
theorem Qeu {p : List Nat} (g : Good p) : 2 ^ p.length ≤ 1024 := Nat.pow_le_pow_right (by omega) (show p.length ≤ 10 from g.le)
theorem Qek {p : List Nat} (g : Good p) : (idls p).length ≤ 1024 := by
 unfold idls
 have := List.length_filter_le (Qea p) (List.range (2 ^ p.length))
 rw [List.length_range] at this
 exact Nat.le_trans this (Qeu g)
theorem Qdb {p : List Nat} {s : Nat} : s ∈ idls p ↔ IsId p s := by
 unfold idls
 rw [List.mem_filter, List.mem_range]
 constructor
 ·
  rintro ⟨h1, h2⟩; exact (Qeg h1).mp h2
 ·
  intro h; exact ⟨h.1, (Qeg h.1).mpr h⟩
theorem Qja (p : List Nat) : (idls p).Nodup := List.Pairwise.filter _ List.nodup_range
theorem Qgq {p : List Nat} (g : Good p) : ∀ (d i : Nat) (acc : List Nat), i + d = 2 ^ p.length → acc.length ≤ i →
  Ev (fun k => Qbv.l0 k (toI acc) (i : Int) (toI p)) (toI (acc ++ (List.range' i d).filter (Qea p)))
 | 0, i, acc, h, ha => by
  refine Ev.step (fun _ => Qbv.l0.eq_2 ..) ?_
  have gl := g.le
  rw [toI_len, Qf8 (by omega)]
  refine Qbh (by omega) ?_
  rw [List.range'_zero, List.filter_nil, List.append_nil]
  exact Ev.now _
 | d + 1, i, acc, h, ha => by
  refine Ev.step (fun _ => Qbv.l0.eq_2 ..) ?_
  have gl := g.le
  have gp := Qeu g
  rw [toI_len, Qf8 (by omega), List.range'_succ, List.filter_cons, Qca (by omega)]
  refine Qk (by omega) (Ev.bind (Qjm g (show i < 2 ^ p.length by omega)) (Qc6 (fun e => ?_) (fun e => ?_)))
  ·
   rw [if_pos e]
   refine Qk (by rw [toI_len]; omega) ?_
   rw [← Qg0, ← Qf9]
   have e2 := Qgq g d (i + 1) (acc ++ [i]) (by omega) (by rw [List.length_append, List.length_singleton]; omega)
   rw [List.append_assoc] at e2
   exact e2
  ·
   rw [if_neg e]
   exact Qgq g d (i + 1) _ (by omega) (by omega)
theorem Qlw {p : List Nat} (g : Good p) : Ev (fun k => Qbv.f k (toI p)) (toI (idls p)) := by
 have := Qgq g (2 ^ p.length) 0 [] (by omega) (Nat.le_refl 0)
 rw [List.nil_append, ← List.range_eq_range'] at this
 exact this
theorem Qj3 {p : List Nat} (g : Good p) (i : Fn1) (hi : ∀ s : Nat, s < 2 ^ p.length → i.p (s : Int) = some (Qea p s)) (N : Nat) (hN : N = 2 ^ p.length) : ∀ (d q : Nat) (acc : List Nat), q + d = N → acc.length ≤ q →
  Ev (fun k => @Qbn.l0 i k (toI acc) (N : Int) (q : Int)) (toI (acc ++ (List.range' q d).filter (Qea p)))
 | 0, q, acc, h, ha => by
  refine Ev.step (fun _ => @Qbn.l0.eq_2 i ..) (Qbh (by omega) ?_)
  rw [List.range'_zero, List.filter_nil, List.append_nil]
  exact Ev.now _
 | d + 1, q, acc, h, ha => by
  refine Ev.step (fun _ => @Qbn.l0.eq_2 i ..) ?_
  have gp := Qeu g
  rw [← hN] at gp
  rw [List.range'_succ, List.filter_cons, Qca (by omega)]
  refine Qk (by omega) (Qbk (hi q (by rw [← hN]; omega)) (Qc6 (fun e => ?_) (fun e => ?_)))
  ·
   rw [if_pos e]
   refine Qk (by rw [toI_len]; omega) ?_
   rw [← Qg0, ← Qf9]
   have e2 := Qj3 g i hi N hN d (q + 1) (acc ++ [q]) (by omega) (by rw [List.length_append, List.length_singleton]; omega)
   rw [List.append_assoc] at e2
   exact e2
  ·
   rw [if_neg e]
   exact Qj3 g i hi N hN d (q + 1) _ (by omega) (by omega)
theorem Qf5 {p : List Nat} (g : Good p) : Ev (fun k => Qbr.f k (toI p)) (toI (idls p)) := by
 obtain ⟨K, hK⟩ := Qi6 (f := fun k (s : Nat) => Q9.f k (toI p) (s : Int)) (r := fun s => ((Qe6 p s : Nat) : Int)) (List.range (2 ^ p.length)) fun s hs => Qim g (List.mem_range.mp hs)
 have hi : ∀ k, K ≤ k → ∀ s : Nat, s < 2 ^ p.length → (Qbr.inst k (toI p)).p (s : Int) = some (Qea p s) := by
  intro k hk s hs
  show (Q9.f k (toI p) (s : Int)).map (· == (s : Int)) = some (Qea p s)
  rw [hK k hk s (List.mem_range.mpr hs), Option.map_some]
  refine congrArg some ?_
  rw [Bool.eq_iff_iff, beq_iff_eq, Qeg hs, ← Qhl hs]
  omega
 obtain ⟨K', h⟩ := Qj3 g _ (hi K (Nat.le_refl _)) _ rfl (2 ^ p.length) 0 [] (by omega) (Nat.le_refl 0)
 refine Ev.of (Qbr.mono _) (k := max K K') ?_
 unfold Qbr.f Qbn.f
 have gl := g.le
 have e1 : wrap64 (((full p : Nat) : Int) + 1) = ((2 ^ p.length : Nat) : Int) := by
  have h2 := Nat.two_pow_pos p.length
  have gp := Qeu g
  unfold full
  rw [show (((2 ^ p.length - 1 : Nat) : Int) + 1) = ((2 ^ p.length : Nat) : Int) by omega]
  exact Qdy (by omega) (by omega)
 rw [Qks gl, Option.bind_some, e1]
 have h3 := h (max K K') (by omega)
 rw [List.nil_append, ← List.range_eq_range'] at h3
 refine Qbr.mono_i _ _ (fun s r hr => ?_) _ _ _ _ _ h3
 obtain ⟨v, hv, e⟩ := Option.map_eq_some_iff.mp hr
 exact Option.map_eq_some_iff.mpr ⟨v, Qj8 (Q9.mono _ _) (show K ≤ max K K' by omega) hv, e⟩
theorem Qdz : ∀ {l M : List Nat}, l.Nodup → (∀ x ∈ l, x ∈ M) → l.length ≤ M.length
 | [], M, _, _ => Nat.zero_le _
 | a :: l, M, hn, hs => by
  rw [List.nodup_cons] at hn
  have ha := hs a List.mem_cons_self
  have h1 := Qdz (M := M.erase a) hn.2 (fun x hx => (List.mem_erase_of_ne (fun e => hn.1 (by rw [← e]; exact hx))).mpr (hs x (List.mem_cons_of_mem _ hx)))
  have h2 := List.length_erase_of_mem ha
  have h3 := List.length_pos_of_mem ha
  rw [List.length_cons]
  omega
def orbW (f : Nat → Nat) : Nat → List Nat → List Nat → Nat → List Nat × List Nat
 | 0, met, own, _ => (met, own)
 | k + 1, met, own, x => if x ∈ met then (met, own) else orbW f k (met ++ [x]) (own ++ [x]) (f x)
def cycF (f : Nat → Nat) (N : Nat) : List Nat → List Nat → List (List Nat)
 | [], _ => []
 | x :: l, met => if x ∈ met then cycF f N l met else (orbW f N met [] x).2 :: cycF f N l (orbW f N met [] x).1
def InL (L met : List Nat) : Prop := met.Nodup ∧ ∀ y ∈ met, y ∈ L
theorem InL.snoc {L met : List Nat} {x : Nat} (h : InL L met) (hx : x ∈ L) (hn : x ∉ met) : InL L (met ++ [x]) := by
 refine ⟨List.nodup_append.mpr ⟨h.1, by simp, ?_⟩, fun y hy => ?_⟩
 ·
  intro a ha b hb e
  rw [List.mem_singleton] at hb
  subst hb e
  exact hn ha
 ·
  rcases List.mem_append.mp hy with hy | hy
  ·
   exact h.2 y hy
  ·
   rw [List.mem_singleton] at hy; subst hy; exact hx
theorem Qmf {L : List Nat} {f : Nat → Nat} (hf : ∀ s ∈ L, f s ∈ L) : ∀ (k : Nat) (met own : List Nat) (x : Nat), InL L met → x ∈ L → InL L (orbW f k met own x).1
 | 0, met, own, x, h, hx => h
 | k + 1, met, own, x, h, hx => by
  unfold orbW
  split
  ·
   exact h
  ·
   rename_i hn
   exact Qmf hf k _ _ _ (h.snoc hx hn) (hf x hx)
theorem Qfi {met : List Nat} {x : Nat} : ((toI met).contains (x : Int) = true) ↔ x ∈ met := by
 rw [List.contains_iff_mem]
 unfold toI
 rw [List.mem_map]
 constructor
 ·
  rintro ⟨y, hy, e⟩
  have : y = x := by omega
  subst this
  exact hy
 ·
  intro h; exact ⟨x, h, rfl⟩
theorem wf_nat {x : Nat} (h : x ≤ 1000000) : (Lit.int .i64 (x : Int)).wf = true := WalkArith.wf_i64 (by omega)
theorem Ql9 {L : List Nat} {f : Nat → Nat} {m : Int → Option Int} (hm : ∀ s ∈ L, m (s : Int) = some ((f s : Nat) : Int)) (hf : ∀ s ∈ L, f s ∈ L) (hL : L.length ≤ 10000) (hb : ∀ s ∈ L, s ≤ 1000000) : ∀ (k j : Nat) (met own : List Nat) (x : Nat), InL L met → x ∈ L → L.length < met.length + k → L.length < met.length + j → own.length ≤ met.length →
  Qo.own k m (toI met) (toI own) (x : Int) = some (toI (orbW f j met own x).1, toI (orbW f j met own x).2)
 | 0, j, met, own, x, h, hx, h1, h2, ho => absurd (Qdz h.1 h.2) (by omega)
 | k + 1, 0, met, own, x, h, hx, h1, h2, ho => absurd (Qdz h.1 h.2) (by omega)
 | k + 1, j + 1, met, own, x, h, hx, h1, h2, ho => by
  have hlen := Qdz h.1 h.2
  rw [Qo.own, orbW, if_pos (wf_nat (hb x hx))]
  by_cases c : x ∈ met
  ·
   rw [if_pos c, if_pos (Qfi.mpr c)]
  ·
   rw [if_neg c, if_neg (fun e => c (Qfi.mp e)), if_pos (by rw [toI_len]; omega), if_pos (by rw [toI_len]; omega), hm x hx, Option.bind_some, ← Qg0, ← Qf9, ← Qf9]
   refine Ql9 hm hf hL hb k j _ _ _ (h.snoc hx c) (hf x hx) ?_ ?_ ?_ <;> simp only [List.length_append, List.length_singleton] <;> omega
theorem Qjb {L : List Nat} {f : Nat → Nat} {m : Int → Option Int} (hm : ∀ s ∈ L, m (s : Int) = some ((f s : Nat) : Int)) (hf : ∀ s ∈ L, f s ∈ L) (hL : L.length ≤ 10000) (hb : ∀ s ∈ L, s ≤ 1000000) (k : Nat) (hk : L.length < k) : ∀ (l met : List Nat) (out : List (List Int)), (∀ x ∈ l, x ∈ L) → InL L met → out.length + l.length ≤ 20000 →
  Qo.go k m (toI l) (toI met) out = some (out ++ (cycF f (L.length + 1) l met).map toI)
 | [], met, out, hl, h, ho => by
  show some out = _
  rw [cycF, List.map_nil, List.append_nil]
 | x :: l, met, out, hl, h, ho => by
  have hx := hl x List.mem_cons_self
  rw [List.length_cons] at ho
  show Qo.go k m ((x : Int) :: toI l) (toI met) out = _
  rw [Qo.go, cycF, if_pos (wf_nat (hb x hx))]
  by_cases c : x ∈ met
  ·
   rw [if_pos c, if_pos (Qfi.mpr c)]
   exact Qjb hm hf hL hb k hk l met out (fun y hy => hl y (List.mem_cons_of_mem _ hy)) h (by omega)
  ·
   rw [if_neg c, if_neg (fun e => c (Qfi.mp e)), show ([] : List Int) = toI [] from rfl, Ql9 hm hf hL hb k (L.length + 1) met [] x h hx (by omega) (by omega) (Nat.zero_le _), Option.bind_some]
   show (if out.length < 5864062014805 then _ else _) = _
   rw [if_pos (by omega), Qjb hm hf hL hb k hk l _ _ (fun y hy => hl y (List.mem_cons_of_mem _ hy)) (Qmf hf _ _ _ _ h hx) (by rw [List.length_append, List.length_singleton]; omega), List.append_assoc]
   rfl
theorem Qhb {L : List Nat} {f : Nat → Nat} {M : Nat → Int → Option Int} (hM : ∀ s ∈ L, Ev (fun k => M k (s : Int)) ((f s : Nat) : Int)) (hf : ∀ s ∈ L, f s ∈ L) (hL : L.length ≤ 10000) (hb : ∀ s ∈ L, s ≤ 1000000) :
  Ev (fun k => Qo.f k (fun x => M k x) (toI L)) ((cycF f (L.length + 1) L []).map toI) := by
 obtain ⟨K, hK⟩ := Qi6 (f := fun k (s : Nat) => M k (s : Int)) (r := fun s => ((f s : Nat) : Int)) L hM
 refine ⟨max K (L.length + 1), fun k hk => ?_⟩
 have := Qjb (m := fun x => M k x) (fun s hs => hK k (by omega) s hs) hf hL hb k (by omega) L [] [] (fun x hx => hx) ⟨List.Pairwise.nil, fun y hy => absurd hy (by simp)⟩ (by simp; omega)
 rw [List.nil_append] at this
 exact this
theorem Qjf (rows : List (List Int)) (hl : rows.length ≤ 100000) : ∀ (d i : Nat) (acc : List Int), i + d = rows.length → acc.length = i →
  Ev (fun k => Qba.l0 k acc rows (rows.length : Int) (i : Int)) (acc ++ (rows.drop i).map (fun r => (r.length : Int)))
 | 0, i, acc, h, ha => by
  refine Ev.step (fun _ => Qba.l0.eq_2 ..) (Qbh (by omega) ?_)
  rw [List.drop_of_length_le (by omega), List.map_nil, List.append_nil]
  exact Ev.now _
 | d + 1, i, acc, h, ha => by
  have hi : i < rows.length := by omega
  refine Ev.step (fun _ => Qba.l0.eq_2 ..) (Qk (by omega) (Qk (by omega) (Qk (by omega) (Qk (by omega) ?_))))
  have e : Qu rows (i : Int) = rows[i] := by unfold Qu; simp [List.getD_eq_getElem?_getD, hi]
  rw [e, List.drop_eq_getElem_cons hi, List.map_cons, Qca (by omega)]
  have := Qjf rows hl d (i + 1) (acc ++ [(rows[i].length : Int)]) (by omega) (by rw [List.length_append, List.length_singleton]; omega)
  rw [List.append_assoc] at this
  exact this
theorem Qje (rows : List (List Int)) (hl : rows.length ≤ 100000) : Ev (fun k => Qba.f k rows) (rows.map (fun r => (r.length : Int))) := by
 have := Qjf rows hl rows.length 0 [] (by omega) rfl
 rw [List.drop_zero, List.nil_append] at this
 exact this
theorem Qgb {f : Nat → Nat} {N : Nat} : ∀ (l met : List Nat), (cycF f N l met).length ≤ l.length
 | [], met => Nat.le_refl _
 | x :: l, met => by
  unfold cycF
  split
  ·
   have := Qgb (f := f) (N := N) l met; rw [List.length_cons]; omega
  ·
   have := Qgb (f := f) (N := N) l (orbW f N met [] x).1; rw [List.length_cons, List.length_cons]; omega
def lens (c : List (List Nat)) : List Int := c.map fun o => (o.length : Int)
theorem Qis (c : List (List Nat)) : (c.map toI).map (fun r => (r.length : Int)) = lens c := by
 unfold lens
 rw [List.map_map]
 refine List.map_congr_left fun o _ => ?_
 show ((toI o).length : Int) = _
 rw [toI_len]
theorem Qhe : ∀ {l r : List Int}, l.Pairwise (· ≤ ·) → r.Pairwise (· ≤ ·) → l.Perm r → l = r
 | [], r, _, _, hp => hp.nil_eq
 | a :: l, [], _, _, hp => absurd hp.symm.nil_eq (by simp)
 | a :: l, b :: r, hl, hr, hp => by
  rw [List.pairwise_cons] at hl hr
  have h1 : a ∈ b :: r := hp.mem_iff.mp List.mem_cons_self
  have h2 : b ∈ a :: l := hp.mem_iff.mpr List.mem_cons_self
  have e : a = b := by
   rcases List.mem_cons.mp h1 with e | h1
   ·
    exact e
   ·
    rcases List.mem_cons.mp h2 with e | h2
    ·
     exact e.symm
    ·
     have := hl.1 b h2
     have := hr.1 a h1
     omega
  subst e
  rw [Qhe hl.2 hr.2 (List.Perm.cons_inv hp)]
theorem Qlz (l : List Int) : (Qcz.sort l).Pairwise (· ≤ ·) := by
 unfold Qcz.sort
 have h := List.pairwise_mergeSort (le := fun x y : Int => decide (x ≤ y)) (fun a b c h1 h2 => by rw [decide_eq_true_eq] at h1 h2 ⊢; omega) (fun a b => by rw [Bool.or_eq_true, decide_eq_true_eq, decide_eq_true_eq]; omega) l
 exact h.imp (fun h => by rwa [decide_eq_true_eq] at h)
theorem Qkh (l : List Int) : (Qcz.sort l).Perm l := List.mergeSort_perm l _
theorem Qml {l r : List Int} (hs : r.Pairwise (· ≤ ·)) (hp : r.Perm l) : Qcz.sort l = r := Qhe (Qlz l) hs ((Qkh l).trans hp.symm)
theorem sort_len (l : List Int) : (Qcz.sort l).length = l.length := (Qkh l).length_eq
theorem Qki {l : List Int} (h : l.length ≤ 100000) : Qcz.f l = some (Qcz.sort l) := if_pos (by omega)
theorem Qir (l : List Int) (h : l.length < 17592186044416) : Qdx.f l = some l := by
 unfold Qdx.f; rw [Option.bind_some, if_pos (by simpa using h)]; rfl
def stepH (p : List Nat) (a : List Nat) (i : Nat) : Nat := Qdt i (less p i) (fun m e => max m (a.getD e 0 + 1)) 0
def hs (p : List Nat) : Nat → List Nat
 | 0 => []
 | i + 1 => hs p i ++ [stepH p (hs p i) i]
def ht (p : List Nat) : List Nat := hs p p.length
def hh (p : List Nat) (i : Nat) : Nat := (ht p).getD i 0
def covB (p : List Nat) (j i : Nat) : Bool := (less p i).testBit j && (List.range' (j + 1) (i - (j + 1))).all fun k => !((less p i).testBit k && (less p k).testBit j)
def pairs (p : List Nat) : List (List Int) := (List.range p.length).flatMap fun j => ((List.range p.length).filter fun i => covB p j i).map fun i => [((j : Nat) : Int), ((i : Nat) : Int)]
def rankedB (p : List Nat) : Bool := (pairs p).all fun c => rd (toI (ht p)) (rd c 1) == rd (toI (ht p)) (rd c 0) + 1
def Qf6 (l : List Int) (n : Int) (i : Nat) : List Int := l.take i ++ [n] ++ l.drop i
theorem Qe3 (l : List Int) (n : Int) (i : Nat) : (Qf6 l n i).Perm (n :: l) := by
 unfold Qf6
 rw [List.append_assoc]
 refine List.perm_middle.trans ?_
 show (n :: (l.take i ++ l.drop i)).Perm _
 rw [List.take_append_drop]
theorem Qfo {l : List Int} {n : Int} {i : Nat} (hs : l.Pairwise (· ≤ ·)) (h1 : ∀ x ∈ l.take i, x ≤ n) (h2 : ∀ x ∈ l.drop i, n ≤ x) : (Qf6 l n i).Pairwise (· ≤ ·) := by
 have hs' := hs
 rw [← List.take_append_drop i l, List.pairwise_append] at hs'
 unfold Qf6
 rw [List.append_assoc, List.pairwise_append]
 refine ⟨hs'.1, ?_, fun a ha b hb => ?_⟩
 ·
  exact List.pairwise_cons.mpr ⟨fun b hb => h2 b hb, hs'.2.1⟩
 ·
  rcases List.mem_cons.mp hb with e | hb
  ·
   rw [e]; exact h1 a ha
  ·
   exact hs'.2.2 a ha b hb
theorem Qll (l : List Int) (n : Int) (hl : l.length ≤ 100000) (hs : l.Pairwise (· ≤ ·)) : ∀ (d i : Nat), i + d = l.length → (∀ x ∈ l.take i, x ≤ n) →
  ∃ r, Ev (fun k => Qce.l0 k l n (i : Int)) r ∧ r.Perm (n :: l) ∧ r.Pairwise (· ≤ ·)
 | 0, i, h, h1 => by
  refine ⟨Qf6 l n i, ?_, Qe3 l n i, Qfo hs h1 (fun x hx => by rw [List.drop_of_length_le (by omega)] at hx; cases hx)⟩
  refine Ev.step (fun _ => Qce.l0.eq_2 ..) (Qbh (by omega) (Qk (by omega) (Qk (by omega) ?_)))
  rw [Int.toNat_natCast]
  refine Qbk (Qir _ (by rw [List.length_take]; omega)) (Qk (by rw [List.length_take]; omega) (Qbk rfl (Qk ?_ (Ev.now _))))
  rw [List.length_append, List.length_take, List.length_drop, List.length_singleton]
  omega
 | d + 1, i, h, h1 => by
  have hi : i < l.length := by omega
  by_cases c : l[i] ≤ n
  ·
   obtain ⟨r, r1, r2⟩ := Qll l n hl hs d (i + 1) (by omega) (fun x hx => by
    rw [List.take_succ_eq_append_getElem hi] at hx
    rcases List.mem_append.mp hx with hx | hx
    ·
     exact h1 x hx
    ·
     rw [List.mem_singleton] at hx; rw [hx]; exact c)
   refine ⟨r, ?_, r2⟩
   refine Ev.step (fun _ => Qce.l0.eq_2 ..) (Qk (by omega) (Qk (by omega) ?_))
   rw [Qe4 hi, Qca (by omega)]
   exact Qk c r1
  ·
   refine ⟨Qf6 l n i, ?_, Qe3 l n i, Qfo hs h1 (fun x hx => ?_)⟩
   ·
    refine Ev.step (fun _ => Qce.l0.eq_2 ..) (Qk (by omega) (Qk (by omega) ?_))
    rw [Qe4 hi]
    refine Qbh c (Qk (by omega) ?_)
    rw [Int.toNat_natCast]
    refine Qbk (Qir _ (by rw [List.length_take]; omega)) (Qk (by rw [List.length_take]; omega) (Qbk rfl (Qk ?_ (Ev.now _))))
    rw [List.length_append, List.length_take, List.length_drop, List.length_singleton]
    omega
   ·
    rw [List.drop_eq_getElem_cons hi] at hx
    have hd : (l.drop i).Pairwise (· ≤ ·) := hs.sublist (List.drop_sublist i l)
    rw [List.drop_eq_getElem_cons hi] at hd
    rcases List.mem_cons.mp hx with e | hx
    ·
     rw [e]; omega
    ·
     have := (List.pairwise_cons.mp hd).1 x hx
     omega
theorem rvPut_ev (l : List Int) (n : Int) (hl : l.length ≤ 100000) (hs : l.Pairwise (· ≤ ·)) : ∃ r, Ev (fun k => Qce.f k l n) r ∧ r.Perm (n :: l) ∧ r.Pairwise (· ≤ ·) := Qll l n hl hs l.length 0 (by omega) (fun x hx => by rw [List.take_zero] at hx; cases hx)
def Seen (N : Nat) (seen : List Bool) (met : List Nat) : Prop := seen.length = N ∧ ∀ s, s < N → seen.getD s false = decide (s ∈ met)
theorem Seen.snoc {N : Nat} {seen : List Bool} {met : List Nat} (h : Seen N seen met) (x : Nat) (hx : x < N) : Seen N (seen.set x true) (met ++ [x]) := by
 refine ⟨by rw [List.length_set]; exact h.1, fun s hs => ?_⟩
 by_cases e : s = x
 ·
  subst e
  have : s < seen.length := by rw [h.1]; exact hs
  simp [List.getD_eq_getElem?_getD, this]
 ·
  have h2 := h.2 s hs
  rw [List.getD_eq_getElem?_getD] at h2 ⊢
  rw [List.getElem?_set_ne (fun e' => e e'.symm), h2]
  simp [e]
theorem tg_tg {p : List Nat} {s e : Nat} (hs : IsId p s) (he : e < p.length) : tg p (tg p s e) e = s := by
 have hlt : s ^^^ 2 ^ e < 2 ^ p.length := Nat.xor_lt_two_pow hs.1 (Nat.pow_lt_pow_right (by omega) he)
 have hx : s ^^^ 2 ^ e ^^^ 2 ^ e = s := by rw [Nat.xor_assoc, Nat.xor_self, Nat.xor_zero]
 by_cases c : Qea p (s ^^^ 2 ^ e) = true
 ·
  have e1 : tg p s e = s ^^^ 2 ^ e := by unfold tg; rw [if_pos c]
  rw [e1]
  unfold tg
  rw [hx, if_pos ((Qeg hs.1).mpr hs)]
 ·
  have e1 : tg p s e = s := by unfold tg; rw [if_neg c]
  rw [e1, e1]
theorem Qie {p : List Nat} : ∀ (w : List Nat) (s : Nat), IsId p s → (∀ e ∈ w, e < p.length) → IsId p (w.foldl (tg p) s)
 | [], s, h, _ => h
 | e :: w, s, h, hw => by
  rw [List.foldl_cons]
  exact Qie w _ (tg_id h (hw e List.mem_cons_self)) fun x hx => hw x (List.mem_cons_of_mem _ hx)
theorem Qf4 {p : List Nat} : ∀ (w : List Nat) (s : Nat), IsId p s → (∀ e ∈ w, e < p.length) → w.foldl (tg p) (w.reverse.foldl (tg p) s) = s
 | [], s, h, _ => rfl
 | e :: w, s, h, hw => by
  have hw' : ∀ x ∈ w, x < p.length := fun x hx => hw x (List.mem_cons_of_mem _ hx)
  rw [List.reverse_cons, List.foldl_append, List.foldl_cons]
  show w.foldl (tg p) (tg p (tg p (w.reverse.foldl (tg p) s) e) e) = s
  rw [tg_tg (Qie _ s h fun x hx => hw' x (List.mem_reverse.mp hx)) (hw e List.mem_cons_self)]
  exact Qf4 w s h hw'
theorem Qj1 {p : List Nat} (g : Good p) {s t : Nat} (hs : IsId p s) (ht : IsId p t) (e : row p s = row p t) : s = t := by
 have hr : ∀ x ∈ List.range p.length, x < p.length := fun x hx => List.mem_range.mp hx
 rw [← Qk1 g hs, ← Qk1 g ht] at e
 rw [← Qf4 (List.range p.length) s hs hr, ← Qf4 (List.range p.length) t ht hr, e]
def Qe5 (L : List Nat) (f : Nat → Nat) (met : List Nat) : Prop := ∀ z ∈ L, f z ∈ met → z ∈ met
theorem Qjj {p : List Nat} (g : Good p) {met : List Nat} (hP : Qe5 (idls p) (row p) met) (s : Nat) : ∀ (k : Nat) (own : List Nat) (y last : Nat), InL (idls p) (met ++ own) → last ∈ own → s ∈ own → y = row p last → (∀ w ∈ own, w ≠ s → ∃ z ∈ own, row p z = w ∧ z ≠ last) → (idls p).length < (met ++ own).length + k → own.length ≤ 2000 →
  ∃ R, orbW (row p) k (met ++ own) own y = (met ++ R, R) ∧ Ev (fun k' => Qbz.l0 k' (s : Int) (toI own) (y : Int) (toI p)) (toI R) ∧ InL (idls p) (met ++ R) ∧ Qe5 (idls p) (row p) (met ++ R)
 | 0, own, y, last, hI, hl, hs, hy, hC, hk, ho => absurd (Qdz hI.1 hI.2) (by omega)
 | k + 1, own, y, last, hI, hl, hs, hy, hC, hk, ho => by
  have gl := Qek g
  have hlen := Qdz hI.1 hI.2
  rw [List.length_append] at hlen hk
  have hlL : last ∈ idls p := hI.2 last (List.mem_append_right _ hl)
  have hnm : ∀ x ∈ own, x ∉ met := fun x hx hm => (List.nodup_append.mp hI.1).2.2 x hm x hx rfl
  have hlast : ∀ z ∈ idls p, row p z = y → z = last := fun z hz e => Qj1 g (Qdb.mp hz) (Qdb.mp hlL) (by rw [e, hy])
  by_cases c : y = s
  ·
   refine ⟨own, ?_, ?_, hI, ?_⟩
   ·
    rw [orbW, if_pos (by rw [c]; exact List.mem_append_right _ hs)]
   ·
    exact Ev.step (fun _ => Qbz.l0.eq_2 ..) (Qk (by omega) (Ev.now _))
   ·
    intro z hz hm
    rcases List.mem_append.mp hm with hm | hm
    ·
     exact List.mem_append_left _ (hP z hz hm)
    ·
     refine List.mem_append_right _ ?_
     by_cases e : row p z = s
     ·
      rw [hlast z hz (e.trans c.symm)]; exact hl
     ·
      obtain ⟨z', h1, h2, h3⟩ := hC _ hm e
      have : z = z' := Qj1 g (Qdb.mp hz) (Qdb.mp (hI.2 z' (List.mem_append_right _ h1))) h2.symm
      rw [this]; exact h1
  ·
   have hyn : y ∉ met ++ own := by
    intro hm
    rcases List.mem_append.mp hm with hm | hm
    ·
     rw [hy] at hm
     exact hnm last hl (hP last hlL hm)
    ·
     obtain ⟨z, h1, h2, h3⟩ := hC y hm c
     exact h3 (hlast z (hI.2 z (List.mem_append_right _ h1)) h2)
   have hyL : y ∈ idls p := by rw [hy, Qdb]; exact Qhx g (Qdb.mp hlL)
   have hyo : y ∉ own := fun h => hyn (List.mem_append_right _ h)
   have hsn := hI.snoc hyL hyn
   rw [List.append_assoc] at hsn
   obtain ⟨R, r1, r2, r3, r4⟩ := Qjj g hP s k (own ++ [y]) (row p y) y hsn (by simp) (List.mem_append_left _ hs) rfl (fun w hw hws => by
     rcases List.mem_append.mp hw with hw | hw
     ·
      obtain ⟨z, h1, h2, h3⟩ := hC w hw hws
      exact ⟨z, List.mem_append_left _ h1, h2, fun e => hyo (e ▸ h1)⟩
     ·
      rw [List.mem_singleton] at hw
      exact ⟨last, List.mem_append_left _ hl, by rw [hw, hy], fun e => hyo (e ▸ hl)⟩) (by simp only [List.length_append, List.length_singleton]; omega) (by rw [List.length_append, List.length_singleton]; omega)
   refine ⟨R, ?_, ?_, r3, r4⟩
   ·
    rw [orbW, if_neg hyn, List.append_assoc]; exact r1
   ·
    refine Ev.step (fun _ => Qbz.l0.eq_2 ..) (Qbh (by omega) (Qk (by rw [toI_len]; omega) (Ev.bind (Qlo g (Qdb.mp hyL).1) ?_)))
    rw [← Qg0, ← Qf9]
    exact r2
theorem Qji {p : List Nat} (g : Good p) {met : List Nat} (hP : Qe5 (idls p) (row p) met) (hI : InL (idls p) met) {s : Nat} (hs : s ∈ idls p) (hn : s ∉ met) :
  ∃ R, orbW (row p) ((idls p).length + 1) met [] s = (met ++ R, R) ∧ Ev (fun k' => Qbz.f k' (toI p) (s : Int)) (toI R) ∧ InL (idls p) (met ++ R) ∧ Qe5 (idls p) (row p) (met ++ R) := by
 obtain ⟨R, r1, r2, r3, r4⟩ := Qjj g hP s (idls p).length [s] (row p s) s (hI.snoc hs hn) (by simp) (by simp) rfl (fun w hw hws => absurd (List.mem_singleton.mp hw) hws) (by rw [List.length_append, List.length_singleton]; omega) (by simp)
 refine ⟨R, ?_, Ev.bind (Qlo g (Qdb.mp hs).1) r2, r3, r4⟩
 rw [orbW, if_neg hn, List.nil_append]
 exact r1
def Qjx (R : List Nat) (seen : List Bool) : List Bool := R.foldl (fun s t => s.set t true) seen
theorem Seen.marks {N : Nat} : ∀ (R : List Nat) {seen : List Bool} {met : List Nat}, Seen N seen met → (∀ x ∈ R, x < N) → Seen N (Qjx R seen) (met ++ R)
 | [], seen, met, h, _ => by rw [List.append_nil]; exact h
 | x :: R, seen, met, h, hR => by
  have := Seen.marks R (h.snoc x (hR x List.mem_cons_self)) fun y hy => hR y (List.mem_cons_of_mem _ hy)
  rw [List.append_assoc] at this
  exact this
theorem Qk9 {p : List Nat} (R : List Nat) (hl : R.length ≤ 2000) (N : Nat) (hR : ∀ x ∈ R, x < N) (out : List (List Int)) (ho : out.length ≤ 20000) (ids : List Int) (q : Nat) (X : List (List Int)) : ∀ (d j : Nat) (seen : List Bool), j + d = R.length → seen.length = N →
  Ev (fun k => Qbj.l0 k (Qjx (R.drop j) seen) (out ++ [toI R]) ids (ids.length : Int) (wrap64 ((q : Int) + 1)) (toI p)) X →
  Ev (fun k => Qbj.l1 k seen out (toI R) ids (ids.length : Int) (q : Int) (toI R) ((toI R).length : Int) (j : Int) (toI p)) X
 | 0, j, seen, h, hs, c => by
  refine Ev.step (fun _ => Qbj.l1.eq_2 ..) (Qbh (by rw [toI_len]; omega) (Qk (by omega) ?_))
  rw [List.drop_of_length_le (by omega)] at c
  exact c
 | d + 1, j, seen, h, hs, c => by
  have hj : j < R.length := by omega
  have hx := hR _ (List.getElem_mem hj)
  have e0 : rd (toI R) (j : Int) = ((R[j] : Nat) : Int) := by rw [Qeq]; simp [List.getD_eq_getElem?_getD, hj]
  refine Ev.step (fun _ => Qbj.l1.eq_2 ..) ?_
  rw [e0, Qca (by omega), Int.toNat_natCast]
  refine Qk (by rw [toI_len]; omega) (Qk (by omega) (Qk (by rw [toI_len]; omega) (Qk (by omega) (Qk (by rw [hs]; omega) ?_))))
  rw [List.drop_eq_getElem_cons hj] at c
  exact Qk9 R hl N hR out ho ids q X d (j + 1) _ (by omega) (by rw [List.length_set]; exact hs) c
theorem Qit {p : List Nat} (g : Good p) (N : Nat) (hN : N = 2 ^ p.length) : ∀ (d q : Nat) (seen : List Bool) (met : List Nat) (out : List (List Int)), q + d = (idls p).length → Seen N seen met → InL (idls p) met → Qe5 (idls p) (row p) met → out.length ≤ q →
  Ev (fun k => Qbj.l0 k seen out (toI (idls p)) ((toI (idls p)).length : Int) (q : Int) (toI p)) (out ++ (cycF (row p) ((idls p).length + 1) ((idls p).drop q) met).map toI)
 | 0, q, seen, met, out, h, hS, hI, hP, ho => by
  refine Ev.step (fun _ => Qbj.l0.eq_2 ..) (Qbh (by rw [toI_len]; omega) ?_)
  rw [List.drop_of_length_le (by omega), cycF, List.map_nil, List.append_nil]
  exact Ev.now _
 | d + 1, q, seen, met, out, h, hS, hI, hP, ho => by
  have hq : q < (idls p).length := by omega
  have gl := Qek g
  have hx := List.getElem_mem hq
  have hid := Qdb.mp hx
  have hxN : (idls p)[q] < N := by rw [hN]; exact hid.1
  have e0 : rd (toI (idls p)) (q : Int) = (((idls p)[q] : Nat) : Int) := by rw [Qeq]; simp [List.getD_eq_getElem?_getD, hq]
  rw [List.drop_eq_getElem_cons hq, cycF]
  refine Ev.step (fun _ => Qbj.l0.eq_2 ..) ?_
  rw [e0]
  have e2 : rdOf false seen (((idls p)[q] : Nat) : Int) = decide ((idls p)[q] ∈ met) := by unfold rdOf; rw [Int.toNat_natCast]; exact hS.2 _ hxN
  rw [e2]
  have hsl : (((idls p)[q] : Nat) : Int) < (seen.length : Int) := by rw [hS.1]; omega
  refine Qk (by rw [toI_len]; omega) (Qk (by omega) (Qk (by rw [toI_len]; omega) (Qk (Int.natCast_nonneg _) (Qk hsl ?_))))
  by_cases cm : (idls p)[q] ∈ met
  ·
   rw [if_pos cm, Qca (by omega)]
   exact Qk (decide_eq_true cm) (Qit g N hN d (q + 1) seen met out (by omega) hS hI hP (by omega))
  ·
   rw [if_neg cm]
   obtain ⟨R, r1, r2, r3, r4⟩ := Qji g hP hI hx cm
   have hRl : R.length ≤ 1024 := by
    have := Qdz r3.1 r3.2
    rw [List.length_append] at this
    omega
   have hRN : ∀ x ∈ R, x < N := fun x hx => by rw [hN]; exact (Qdb.mp (r3.2 x (List.mem_append_right _ hx))).1
   rw [r1]
   refine Qbh (by rw [decide_eq_true_eq]; exact cm) (Ev.bind r2 ?_)
   refine Qk9 R (by omega) N hRN out (by omega) _ q _ R.length 0 seen (by omega) hS.1 ?_
   have ih := Qit g N hN d (q + 1) (Qjx R seen) (met ++ R) (out ++ [toI R]) (by omega) (hS.marks R hRN) r3 r4 (by rw [List.length_append, List.length_singleton]; omega)
   rw [List.append_assoc] at ih
   rw [List.drop_zero, Qca (by omega), List.map_cons]
   exact ih
theorem Qk8 {p : List Nat} (g : Good p) : Ev (fun k => Qbj.f k (toI p)) ((cycF (row p) ((idls p).length + 1) (idls p) []).map toI) := by
 have gle := g.le
 have gp := Qeu g
 have h := Qit g (2 ^ p.length) rfl (idls p).length 0 (List.replicate (2 ^ p.length) false) [] [] (by omega) ⟨by rw [List.length_replicate], fun s hs => by simp [List.getD_eq_getElem?_getD, hs]⟩ ⟨List.Pairwise.nil, fun y hy => absurd hy (by simp)⟩ (fun z hz h => absurd h (by simp)) (Nat.le_refl _)
 rw [List.drop_zero, List.nil_append] at h
 unfold Qbj.f
 rw [toI_len, Qf8 (by omega), Int.toNat_natCast]
 exact Qk (Int.natCast_nonneg _) (Qk (Nat.le_trans gp (by decide)) (Ev.bind (Qlw g) h))
theorem Qhr (rows : List (List Int)) (hl : rows.length ≤ 100000) : ∀ (d i : Nat) (acc : List Int), i + d = rows.length → acc.length = i →
  Ev (fun k => Qbc.l0 k acc rows (rows.length : Int) (i : Int)) (acc ++ (rows.drop i).map (fun r => (r.length : Int)))
 | 0, i, acc, h, ha => by
  refine Ev.step (fun _ => Qbc.l0.eq_2 ..) (Qbh (by omega) ?_)
  rw [List.drop_of_length_le (by omega), List.map_nil, List.append_nil]
  exact Ev.now _
 | d + 1, i, acc, h, ha => by
  have hi : i < rows.length := by omega
  refine Ev.step (fun _ => Qbc.l0.eq_2 ..) (Qk (by omega) (Qk (by omega) (Qk (by omega) (Qk (by omega) ?_))))
  have e : Qu rows (i : Int) = rows[i] := by unfold Qu; simp [List.getD_eq_getElem?_getD, hi]
  rw [e, List.drop_eq_getElem_cons hi, List.map_cons, Qca (by omega)]
  have := Qhr rows hl d (i + 1) (acc ++ [(rows[i].length : Int)]) (by omega) (by rw [List.length_append, List.length_singleton]; omega)
  rw [List.append_assoc] at this
  exact this
theorem Qfn {p : List Nat} (g : Good p) : Ev (fun k => Qbc.f k (toI p)) (lens (cycF (row p) ((idls p).length + 1) (idls p) [])) := by
 have gl := Qek g
 have hcl := Qgb (f := row p) (N := (idls p).length + 1) (idls p) []
 refine Ev.bind (Qk8 g) ?_
 have := Qhr ((cycF (row p) ((idls p).length + 1) (idls p) []).map toI) (by rw [List.length_map]; omega) _ 0 [] (Nat.zero_add _) rfl
 rw [List.drop_zero, List.nil_append, Qis] at this
 exact this
theorem Qii (ls : List Int) (hl : ls.length ≤ 2000) : ∀ (d q : Nat) (out : List Int), q + d = ls.length → out.Pairwise (· ≤ ·) → out.length = q →
  ∃ r, Ev (fun k => Qbi.l0 k out ls (ls.length : Int) (q : Int)) (r, true) ∧ r.Pairwise (· ≤ ·) ∧ r.Perm (out ++ ls.drop q)
 | 0, q, out, h, hs, ho => by
  refine ⟨out, Ev.step (fun _ => Qbi.l0.eq_2 ..) (Qbh (by omega) (Ev.now _)), hs, ?_⟩
  rw [List.drop_of_length_le (by omega), List.append_nil]
 | d + 1, q, out, h, hs, ho => by
  have hq : q < ls.length := by omega
  obtain ⟨t, t1, t2, t3⟩ := rvPut_ev out ls[q] (by omega) hs
  have htl : t.length = out.length + 1 := by rw [t2.length_eq, List.length_cons]
  obtain ⟨r, r1, r2, r3⟩ := Qii ls hl d (q + 1) t (by omega) t3 (by omega)
  refine ⟨r, ?_, r2, ?_⟩
  ·
   refine Ev.step (fun _ => Qbi.l0.eq_2 ..) (Qk (by omega) (Qk (by omega) (Qk (by omega) ?_)))
   rw [Qe4 hq, Qca (by omega)]
   exact Ev.bind t1 r1
  ·
   rw [List.drop_eq_getElem_cons hq]
   refine r3.trans ((t2.append_right _).trans ?_)
   exact List.perm_middle.symm
theorem Qf2 (l : List Int) (hl : l.length ≤ 1048576) : ∃ r : List Int × Bool, r.1.length ≤ 100000 ∧ Ev (fun k => Qbi.f k l) r ∧ Ev (fun k => Qb3.f k l) r := by
 by_cases h : Qel l = true
 ·
  obtain ⟨p, rfl, g⟩ := Qee h
  have gl := Qek g
  have hcl := Qgb (f := row p) (N := (idls p).length + 1) (idls p) []
  have hll : (lens (cycF (row p) ((idls p).length + 1) (idls p) [])).length ≤ 1024 := by unfold lens; rw [List.length_map]; omega
  obtain ⟨r, r1, r2, r3⟩ := Qii (lens (cycF (row p) ((idls p).length + 1) (idls p) [])) (by omega) _ 0 [] (Nat.zero_add _) List.Pairwise.nil rfl
  rw [List.drop_zero, List.nil_append] at r3
  refine ⟨(r, true), ?_, Ev.bind (Qdg _) (Qk h (Ev.bind (Qfn g) r1)), ?_⟩
  ·
   show r.length ≤ _
   rw [r3.length_eq]; omega
  ·
   have hM : ∀ s ∈ idls p, Ev (fun k => Qbo.f k (toI p) (s : Int)) ((row p s : Nat) : Int) := fun s hs => Qjp g (Qdb.mp hs).1
   have hf : ∀ s ∈ idls p, row p s ∈ idls p := fun s hs => Qdb.mpr (Qhx g (Qdb.mp hs))
   have gp := Qeu g
   have hb : ∀ s ∈ idls p, s ≤ 1000000 := fun s hs => by have := (Qdb.mp hs).1; omega
   have hcy := Qhb (M := fun k x => Qbo.f k (toI p) x) hM hf (by omega) hb
   have hle := Qje ((cycF (row p) ((idls p).length + 1) (idls p) []).map toI) (by rw [List.length_map]; omega)
   rw [Qis] at hle
   have hso := Qki (l := lens (cycF (row p) ((idls p).length + 1) (idls p) [])) (by omega)
   rw [Qml r2 r3] at hso
   have hor : Ev (fun k => Qbm.f k (toI p)) ((cycF (row p) ((idls p).length + 1) (idls p) []).map toI) := Ev.bind (Qf5 g) (Qk (by rw [toI_len]; omega) hcy)
   exact Ev.bind (Qdw _) (Qk h (Ev.bind hor (Ev.bind hle (Qbk hso (Ev.now _)))))
 ·
  exact ⟨([], false), by simp, Ev.bind (Qdg _) (Qbh h (Ev.now _)), Ev.bind (Qdw _) (Qbh h (Ev.now _))⟩
end Go.Proofs.YtkgngggppcmpfaaGreat.M
end
section
namespace Go.Proofs.YtkgngggppcmpfaaGreat.M
set_option linter.unusedVariables false
def itr (f : Nat → Nat) : Nat → Nat → Nat
 | 0, x => x
 | n + 1, x => f (itr f n x)
theorem Qfa (f : Nat → Nat) (m : Nat) (x : Nat) : ∀ n, itr f (n + m) x = itr f n (itr f m x)
 | 0 => by rw [Nat.zero_add]; rfl
 | n + 1 => by rw [Nat.add_right_comm]; show f _ = f _; rw [Qfa f m x n]
theorem Qfj {L : List Nat} {f : Nat → Nat} (hf : ∀ s ∈ L, f s ∈ L) {x : Nat} (hx : x ∈ L) : ∀ n, itr f n x ∈ L
 | 0 => hx
 | n + 1 => hf _ (Qfj hf hx n)
def Inj (L : List Nat) (f : Nat → Nat) : Prop := ∀ s ∈ L, ∀ t ∈ L, f s = f t → s = t
theorem Qma {L : List Nat} {f : Nat → Nat} (hf : ∀ s ∈ L, f s ∈ L) (hi : Inj L f) {x y : Nat} (hx : x ∈ L) (hy : y ∈ L) : ∀ n, itr f n x = itr f n y → x = y
 | 0, h => h
 | n + 1, h => Qma hf hi hx hy n (hi _ (Qfj hf hx n) _ (Qfj hf hy n) h)
def cyc (f : Nat → Nat) (x n : Nat) : List Nat := (List.range n).map fun i => itr f i x
theorem Qgs (f : Nat → Nat) (x n : Nat) : (cyc f x n).length = n := by simp [cyc]
theorem Qk0 (f : Nat → Nat) (x n : Nat) : cyc f x (n + 1) = cyc f x n ++ [itr f n x] := by simp [cyc, List.range_succ]
theorem Qfs {f : Nat → Nat} {x n y : Nat} : y ∈ cyc f x n ↔ ∃ i, i < n ∧ itr f i x = y := by simp [cyc]
theorem Qh4 {f : Nat → Nat} {x n i : Nat} (h : i < (cyc f x n).length) : (cyc f x n)[i] = itr f i x := by simp [cyc]
structure IsCyc (L : List Nat) (f : Nat → Nat) (o : List Nat) : Prop where
 ex : ∃ x n, x ∈ L ∧ 0 < n ∧ itr f n x = x ∧ o = cyc f x n
 nd : o.Nodup
theorem Ql5 {f : Nat → Nat} {x n i j : Nat} (h : (cyc f x n).Nodup) (hij : i < j) (hj : j < n) (e : itr f i x = itr f j x) : False := by
 have h1 := List.pairwise_iff_getElem.mp h i j (by rw [Qgs]; omega) (by rw [Qgs]; omega) hij
 rw [Qh4, Qh4] at h1
 exact h1 e
theorem Qlc {L : List Nat} {f : Nat → Nat} (hf : ∀ s ∈ L, f s ∈ L) (hinj : Inj L f) {met : List Nat} (hP : Qe5 L f met) {x : Nat} (hx : x ∈ L) : ∀ (k n : Nat), 0 < n → InL L (met ++ cyc f x n) → L.length < (met ++ cyc f x n).length + k →
  ∃ m, 0 < m ∧ itr f m x = x ∧ orbW f k (met ++ cyc f x n) (cyc f x n) (itr f n x) = (met ++ cyc f x m, cyc f x m) ∧ InL L (met ++ cyc f x m)
 | 0, n, hn, hI, hk => absurd (Qdz hI.1 hI.2) (by omega)
 | k + 1, n, hn, hI, hk => by
  unfold orbW
  obtain ⟨n', rfl⟩ : ∃ n', n = n' + 1 := ⟨n - 1, by omega⟩
  have hnd := hI.1
  rw [List.nodup_append] at hnd
  have hlast : itr f n' x ∈ L := Qfj hf hx n'
  have hlm : itr f n' x ∉ met := fun h => hnd.2.2 _ h _ (Qfs.mpr ⟨n', by omega, rfl⟩) rfl
  by_cases c : itr f (n' + 1) x ∈ met ++ cyc f x (n' + 1)
  ·
   rw [if_pos c]
   refine ⟨n' + 1, hn, ?_, rfl, hI⟩
   rw [List.mem_append] at c
   rcases c with c | c
   ·
    exact absurd (hP _ hlast c) hlm
   ·
    obtain ⟨i, hi, e⟩ := Qfs.mp c
    cases i with
    | zero => exact e.symm
    | succ i =>
     exfalso
     exact Ql5 hnd.2.1 (by omega : i < n') (by omega) (hinj _ (Qfj hf hx i) _ hlast e)
  ·
   rw [if_neg c]
   have e1 : met ++ cyc f x (n' + 1) ++ [itr f (n' + 1) x] = met ++ cyc f x (n' + 1 + 1) := by rw [Qk0 f x (n' + 1), List.append_assoc]
   have hI' := hI.snoc (Qfj hf hx (n' + 1)) c
   rw [e1] at hI'
   rw [e1, ← Qk0]
   refine Qlc hf hinj hP hx k (n' + 1 + 1) (by omega) hI' ?_
   rw [← e1]
   simp only [List.length_append, List.length_singleton] at hk ⊢
   omega
theorem Ql6 {L : List Nat} {f : Nat → Nat} (hf : ∀ s ∈ L, f s ∈ L) (hinj : Inj L f) {x m : Nat} (hx : x ∈ L) (hm : 0 < m) (e : itr f m x = x) {met : List Nat} (hP : Qe5 L f met) : Qe5 L f (met ++ cyc f x m) := by
 intro z hz h
 rw [List.mem_append] at h ⊢
 rcases h with h | h
 ·
  exact .inl (hP z hz h)
 ·
  obtain ⟨i, hi, ei⟩ := Qfs.mp h
  refine .inr (Qfs.mpr ?_)
  cases i with
  | zero =>
   obtain ⟨m', rfl⟩ : ∃ m', m = m' + 1 := ⟨m - 1, by omega⟩
   exact ⟨m', by omega, hinj _ (Qfj hf hx m') _ hz (e.trans ei)⟩
  | succ i => exact ⟨i, by omega, hinj _ (Qfj hf hx i) _ hz ei⟩
theorem Qjk {L : List Nat} {f : Nat → Nat} (hf : ∀ s ∈ L, f s ∈ L) (hinj : Inj L f) {met : List Nat} (hP : Qe5 L f met) (hI : InL L met) {x : Nat} (hx : x ∈ L) (hn : x ∉ met) {N : Nat} (hN : L.length < N) :
  ∃ m, 0 < m ∧ itr f m x = x ∧ orbW f N met [] x = (met ++ cyc f x m, cyc f x m) ∧ InL L (met ++ cyc f x m) := by
 obtain ⟨k, rfl⟩ : ∃ k, N = k + 1 := ⟨N - 1, by omega⟩
 have e : cyc f x 1 = [x] := rfl
 have h := Qlc hf hinj hP hx k 1 (by omega) (by rw [e]; exact hI.snoc hx hn) (by rw [e, List.length_append, List.length_singleton]; omega)
 unfold orbW
 rw [if_neg hn]
 exact h
theorem Qhm {L : List Nat} {f : Nat → Nat} (hf : ∀ s ∈ L, f s ∈ L) (hinj : Inj L f) {N : Nat} (hN : L.length < N) : ∀ (l met : List Nat), (∀ x ∈ l, x ∈ L) → Qe5 L f met → InL L met →
  (∀ o ∈ cycF f N l met, IsCyc L f o) ∧ InL L (met ++ (cycF f N l met).flatten) ∧ (∀ x ∈ l, x ∈ met ++ (cycF f N l met).flatten)
 | [], met, _, _, hI => ⟨fun o ho => (by cases ho), by rw [cycF, List.flatten_nil, List.append_nil]; exact hI, fun x hx => (by cases hx)⟩
 | x :: l, met, hl, hP, hI => by
  have hx := hl x List.mem_cons_self
  have hl' : ∀ y ∈ l, y ∈ L := fun y hy => hl y (List.mem_cons_of_mem _ hy)
  rw [cycF]
  by_cases c : x ∈ met
  ·
   rw [if_pos c]
   obtain ⟨h1, h2, h3⟩ := Qhm hf hinj hN l met hl' hP hI
   refine ⟨h1, h2, fun y hy => ?_⟩
   rcases List.mem_cons.mp hy with rfl | hy
   ·
    exact List.mem_append_left _ c
   ·
    exact h3 y hy
  ·
   rw [if_neg c]
   obtain ⟨m, hm, em, eo, hI2⟩ := Qjk hf hinj hP hI hx c hN
   rw [eo]
   obtain ⟨h1, h2, h3⟩ := Qhm hf hinj hN l (met ++ cyc f x m) hl' (Ql6 hf hinj hx hm em hP) hI2
   have e : met ++ (cyc f x m :: cycF f N l (met ++ cyc f x m)).flatten = met ++ cyc f x m ++ (cycF f N l (met ++ cyc f x m)).flatten := by rw [List.flatten_cons, List.append_assoc]
   show (∀ o ∈ cyc f x m :: cycF f N l (met ++ cyc f x m), IsCyc L f o) ∧ InL L (met ++ (cyc f x m :: cycF f N l (met ++ cyc f x m)).flatten) ∧ _
   refine ⟨fun o ho => ?_, by rw [e]; exact h2, fun y hy => ?_⟩
   ·
    rcases List.mem_cons.mp ho with rfl | ho
    ·
     exact ⟨⟨x, m, hx, hm, em, rfl⟩, (List.nodup_append.mp hI2.1).2.1⟩
    ·
     exact h1 o ho
   ·
    show y ∈ met ++ (cyc f x m :: cycF f N l (met ++ cyc f x m)).flatten
    rw [e]
    rcases List.mem_cons.mp hy with rfl | hy
    ·
     exact List.mem_append_left _ (List.mem_append_right _ (Qfs.mpr ⟨0, hm, rfl⟩))
    ·
     exact h3 y hy
theorem Qhw (L : List Nat) (f : Nat → Nat) : Qe5 L f [] := fun z _ h => (by cases h)
theorem Qh5 (L : List Nat) : InL L [] := ⟨List.Pairwise.nil, fun y hy => (by cases hy)⟩
theorem Qkz {L : List Nat} {f : Nat → Nat} (hL : L.Nodup) (hf : ∀ s ∈ L, f s ∈ L) (hinj : Inj L f) {N : Nat} (hN : L.length < N) :
  (∀ o ∈ cycF f N L [], IsCyc L f o) ∧ (cycF f N L []).flatten.Perm L := by
 obtain ⟨h1, h2, h3⟩ := Qhm hf hinj hN L [] (fun x hx => hx) (Qhw L f) (Qh5 L)
 rw [List.nil_append] at h2 h3
 exact ⟨h1, (List.perm_ext_iff_of_nodup h2.1 hL).mpr fun a => ⟨h2.2 a, h3 a⟩⟩
def perB (f : Nat → Nat) (n x : Nat) : Bool := decide (0 < n) && itr f n x == x && (List.range n).all fun m => m == 0 || itr f m x != x
theorem Qlf {f : Nat → Nat} {n x : Nat} : perB f n x = true ↔ 0 < n ∧ itr f n x = x ∧ ∀ m, 0 < m → m < n → itr f m x ≠ x := by
 unfold perB
 simp only [Bool.and_eq_true, decide_eq_true_eq, beq_iff_eq, List.all_eq_true, List.mem_range, Bool.or_eq_true, bne_iff_ne, ne_eq, and_assoc]
 refine and_congr_right fun _ => and_congr_right fun _ => ⟨fun h m h0 hm => (h m hm).elim (fun e => absurd e (by omega)) id, fun h m hm => ?_⟩
 by_cases c : m = 0
 ·
  exact .inl c
 ·
  exact .inr (h m (by omega) hm)
theorem IsCyc.per {L : List Nat} {f : Nat → Nat} (hf : ∀ s ∈ L, f s ∈ L) (hinj : Inj L f) {o : List Nat} (h : IsCyc L f o) {y : Nat} (hy : y ∈ o) : perB f o.length y = true := by
 obtain ⟨x, n, hx, hn, e, rfl⟩ := h.ex
 obtain ⟨i, hi, rfl⟩ := Qfs.mp hy
 rw [Qgs, Qlf]
 refine ⟨hn, ?_, fun m h0 hm e2 => ?_⟩
 ·
  rw [← Qfa, Nat.add_comm, Qfa, e]
 ·
  rw [← Qfa, Nat.add_comm, Qfa] at e2
  have e3 := Qma hf hinj (Qfj hf hx m) hx i e2
  exact Ql5 h.nd (i := 0) h0 hm e3.symm
structure Sys {α : Type} (t : α → Nat → α) (I : α → Prop) (H : Nat) : Prop where
 keep : ∀ s r, I s → r < H → I (t s r)
 inv : ∀ s r, I s → r < H → t (t s r) r = s
 com : ∀ s i j, I s → i < H → j < H → i + 2 ≤ j → t (t s i) j = t (t s j) i
def Wq {α : Type} (t : α → Nat → α) (I : α → Prop) (u v : List Nat) : Prop := ∀ s, I s → u.foldl t s = v.foldl t s
def In (H : Nat) (u : List Nat) : Prop := ∀ x ∈ u, x < H
theorem In.app {H : Nat} {u v : List Nat} (h : In H u) (h' : In H v) : In H (u ++ v) := fun x hx => (List.mem_append.mp hx).elim (h x) (h' x)
theorem In.mono {H K : Nat} {u : List Nat} (h : In H u) (hk : H ≤ K) : In K u := fun x hx => Nat.lt_of_lt_of_le (h x hx) hk
section
variable {α : Type} {t : α → Nat → α} {I : α → Prop} {H K : Nat}
theorem Sys.foldI (S : Sys t I H) : ∀ (u : List Nat) (s : α), In H u → I s → I (u.foldl t s)
 | [], _, _, h => h
 | x :: u, s, hu, h => S.foldI u _ (fun y hy => hu y (List.mem_cons_of_mem _ hy)) (S.keep s x h (hu x List.mem_cons_self))
theorem Wq.rfl' (u : List Nat) : Wq t I u u := fun _ _ => rfl
theorem Wq.symm {u v : List Nat} (h : Wq t I u v) : Wq t I v u := fun s hs => (h s hs).symm
theorem Wq.trans {u v w : List Nat} (h : Wq t I u v) (h' : Wq t I v w) : Wq t I u w := fun s hs => (h s hs).trans (h' s hs)
theorem Sys.app (S : Sys t I H) {u u' v v' : List Nat} (hu : In H u) (h : Wq t I u u') (h' : Wq t I v v') : Wq t I (u ++ v) (u' ++ v') := fun s hs => by
 rw [List.foldl_append, List.foldl_append, h' _ (S.foldI u s hu hs), h s hs]
theorem Sys.left (S : Sys t I H) {v v' : List Nat} (u : List Nat) (hu : In H u) (h' : Wq t I v v') : Wq t I (u ++ v) (u ++ v') := S.app hu (Wq.rfl' u) h'
theorem Wq.right {u u' : List Nat} (h : Wq t I u u') (v : List Nat) : Wq t I (u ++ v) (u' ++ v) := fun s hs => by
 rw [List.foldl_append, List.foldl_append, h s hs]
end
end Go.Proofs.YtkgngggppcmpfaaGreat.M
end
section
namespace Go.Proofs.YtkgngggppcmpfaaGreat.M
open Go.RowKit Go.Proofs.YtkgngggppcmpfaaGreatW.PrintWords Go.Proofs.YtkgngggppcmpfaaGreatW.PrintLast Go.Proofs.YtkgngggppcmpfaaGreatW.PrintMore Go.Proofs.YtkgngggppcmpfaaGreat.L
set_option linter.unusedVariables false
section
variable {p : List Nat} (g : Good p) (hr : rankedB p = true) {s : Nat} (hs : IsId p s)
include g hr hs
end
end Go.Proofs.YtkgngggppcmpfaaGreat.M
end
section
namespace Go.Proofs.YtkgngggppcmpfaaGreat.M
open Go.RowKit Go.Proofs.YtkgngggppcmpfaaGreatW.PrintWords Go.Proofs.YtkgngggppcmpfaaGreatW.PrintLast Go.Proofs.YtkgngggppcmpfaaGreatW.PrintMore Go.Proofs.YtkgngggppcmpfaaGreat.L
set_option linter.unusedVariables false
end Go.Proofs.YtkgngggppcmpfaaGreat.M
end
section
namespace Go.Proofs.YtkgngggppcmpfaaGreat.M
open Go.RowKit Go.Proofs.YtkgngggppcmpfaaGreatW.PrintWords Go.Proofs.YtkgngggppcmpfaaGreatW.PrintLast Go.Proofs.YtkgngggppcmpfaaGreatW.PrintMore Go.Proofs.YtkgngggppcmpfaaGreat.L
end Go.Proofs.YtkgngggppcmpfaaGreat.M
end
section
namespace Go.Proofs.YtkgngggppcmpfaaGreat.M
open Go.RowKit Go.Proofs.YtkgngggppcmpfaaGreatW.PrintWords Go.Proofs.YtkgngggppcmpfaaGreatW.PrintLast Go.Proofs.YtkgngggppcmpfaaGreatW.PrintMore Go.Proofs.YtkgngggppcmpfaaGreat.L
set_option linter.unusedVariables false
def Qi0 (r : List (List Int)) : Prop := r.length ≤ 100000 ∧ ∀ x ∈ r, x.length ≤ 100000
theorem Qmi {r : List (List Int)} {i : Nat} (h : i < r.length) : Qu r (i : Int) = r[i] := by unfold Qu; simp [List.getD_eq_getElem?_getD, h]
theorem Qm8 {x y : Int} {a b : List Int} (e : x = y) : decide (x :: a = y :: b) = decide (a = b) :=
 decide_eq_decide.mpr ⟨fun h => (List.cons.inj h).2, fun h => by rw [e, h]⟩
theorem Qk7 (a b : List Int) (hl : a.length ≤ 1000000) (hab : a.length = b.length) : ∀ (d i : Nat), i + d = a.length → Ev (fun k => Qbb.l0 k a b (a.length : Int) (i : Int)) (decide (a.drop i = b.drop i))
 | 0, i, h => by
  refine Ev.step (fun _ => Qbb.l0.eq_2 ..) (Qbh (by omega) ?_)
  rw [List.drop_of_length_le (by omega), List.drop_of_length_le (by omega)]
  exact Ev.now _
 | d + 1, i, h => by
  refine Ev.step (fun _ => Qbb.l0.eq_2 ..) (Qk (by omega) (Qk (by omega) (Qk (by omega) (Qk (by omega) ?_))))
  rw [Qca (by omega), Qe4 (by omega : i < a.length), Qe4 (by omega : i < b.length), List.drop_eq_getElem_cons (by omega : i < a.length), List.drop_eq_getElem_cons (by omega : i < b.length)]
  refine Qc6 (fun e => ?_) (fun e => ?_)
  ·
   rw [Qm8 e]; exact Qk7 a b hl hab d (i + 1) (by omega)
  ·
   rw [decide_eq_false fun h => e (List.cons.inj h).1]; exact Ev.now false
theorem nSame_ev (a b : List Int) (hl : a.length ≤ 1000000) : Ev (fun k => Qbb.f k a b) (decide (a = b)) := by
 refine Qc6 (fun e => ?_) (fun e => ?_)
 ·
  have := Qk7 a b hl (by omega) a.length 0 (by omega)
  rw [List.drop_zero, List.drop_zero] at this
  exact this
 ·
  rw [decide_eq_false fun h => e (by rw [h])]; exact Ev.now false
theorem Qfm (a : List Int) (hl : a.length ≤ 1000000) : Ev (fun k => Qbb.f k a a) true := by simpa using nSame_ev a a hl
theorem Qk6 (r : List (List Int)) (hr : Qi0 r) : ∀ (d i : Nat), i + d = r.length → Ev (fun k => Qbu.l0 k r r (r.length : Int) (i : Int)) true
 | 0, i, h => Ev.step (fun _ => Qbu.l0.eq_2 ..) (Qbh (by omega) (Ev.now _))
 | d + 1, i, h => by
  have hi : i < r.length := by omega
  have hl := hr.1
  have hx := hr.2 _ (List.getElem_mem hi)
  refine Ev.step (fun _ => Qbu.l0.eq_2 ..) (Qk (by omega) (Qk (by omega) (Qk (by omega) (Qk (by omega) ?_))))
  rw [Qmi hi, Qca (by omega)]
  exact Ev.bind (Qfm _ (by omega)) (Qk rfl (Qk6 r hr d (i + 1) (by omega)))
theorem Qmw (r : List (List Int)) (hr : Qi0 r) : Ev (fun k => Qbu.f k r r) true := Qk rfl (Qk6 r hr r.length 0 (Nat.zero_add _))
theorem big_eq (a b : List Int) : ∃ v, Qef.f a b = some v ∧ (v = false → a.length ≤ 1048576 ∧ b.length ≤ 1048576) := by
 unfold Qef.f
 by_cases h : (a.length : Int) > 1048576
 ·
  rw [if_pos h]; exact ⟨true, rfl, fun e => by cases e⟩
 ·
  rw [if_neg h]
  refine ⟨_, rfl, fun e => ?_⟩
  rw [decide_eq_false_iff_not, Qdy (by omega) (by omega)] at e
  omega
structure Cu (c : List Int) (t : Int) (m : Nat) : Prop where
 len : c.length ≤ 1048576
 byt : ∀ x ∈ c, 0 ≤ x ∧ x ≤ 255
 lo : 0 ≤ t
 hi : t ≤ (m : Int)
theorem Cu.mono {c : List Int} {t : Int} {m n : Nat} (h : Cu c t m) (hm : m ≤ n) : Cu c t n := ⟨h.len, h.byt, h.lo, by have := h.hi; omega⟩
theorem Qkx {c : List Int} (hl : c.length ≤ 1048576) (hb : ∀ x ∈ c, (Lit.int .u8 x).wf = true) : Cu c 0 0 :=
 ⟨hl, fun x hx => by
  have h := hb x hx
  simp only [Lit.wf, Bool.and_eq_true, decide_eq_true_eq] at h
  have e0 : IntKind.u8.min = 0 := by decide
  have e1 : IntKind.u8.max = 255 := by decide
  omega, Int.le_refl _, Int.le_refl _⟩
theorem and255 (a : Int) : ∃ v : Nat, v ≤ 255 ∧ Go.bits .and .u64 a 255 = (v : Int) := by
 refine ⟨(BitVec.ofInt IntKind.u64.bits a).toNat &&& (BitVec.ofInt IntKind.u64.bits 255).toNat, ?_, ?_⟩
 ·
  exact Nat.le_trans Nat.and_le_right (by decide)
 ·
  simp only [Go.bits, BitVec.toNat_and]
  have h : (BitVec.ofInt IntKind.u64.bits a).toNat &&& (BitVec.ofInt IntKind.u64.bits 255).toNat ≤ 255 := Nat.le_trans Nat.and_le_right (by decide)
  rw [show ∀ n : Int, IntKind.u64.wrap n = n % 18446744073709551616 from fun n => by simp [IntKind.wrap, IntKind.bits, IntKind.signed]]
  omega
theorem Qme {c : List Int} {t s : Int} {m : Nat} (h : Cu c t m) (hm : m ≤ 1000000) : ∃ v t' s', Qdo.f c t s = some (v, t', s') ∧ 0 ≤ v ∧ v ≤ 255 ∧ Cu c t' (m + 1) := by
 have hl := h.len
 have h0 := h.lo
 have h1 := h.hi
 have hc : Cu c (wrap64 (t + 1)) (m + 1) := ⟨h.len, h.byt, by rw [Qdy (by omega) (by omega)]; omega, by rw [Qdy (by omega) (by omega)]; omega⟩
 have wb : ∀ a : Int, 0 ≤ wrap64 (Go.bits .and .u64 a 255) ∧ wrap64 (Go.bits .and .u64 a 255) ≤ 255 := fun a => by
  obtain ⟨v, hv, e⟩ := and255 a
  rw [e, Qdy (by omega) (by omega)]; omega
 unfold Qdo.f
 by_cases c1 : t < (c.length : Int)
 ·
  obtain ⟨i, rfl⟩ : ∃ i : Nat, t = (i : Int) := ⟨t.toNat, by omega⟩
  have hb := h.byt _ (List.getElem_mem (show i < c.length by omega))
  rw [if_pos c1, if_pos h0, Qe4 (by omega)]
  by_cases c2 : wrap64 ((i : Int) + 1) ≤ (c.length : Int)
  ·
   rw [if_pos c2]
   exact ⟨_, _, _, rfl, by rw [Qdy (by omega) (by omega)]; omega, by rw [Qdy (by omega) (by omega)]; omega, hc⟩
  ·
   rw [if_neg c2]
   exact ⟨_, _, _, rfl, (wb _).1, (wb _).2, hc⟩
 ·
  rw [if_neg c1]
  by_cases c2 : wrap64 (t + 1) ≤ (c.length : Int)
  ·
   rw [if_pos c2]
   exact ⟨_, _, _, rfl, by omega, by omega, hc⟩
  ·
   rw [if_neg c2]
   exact ⟨_, _, _, rfl, (wb _).1, (wb _).2, hc⟩
theorem Qmo {a n : Int} (ha : 0 ≤ a) (hn : 0 < n) : 0 ≤ Int.tmod a n ∧ Int.tmod a n < n := by
 rw [Int.tmod_eq_emod_of_nonneg ha]
 exact ⟨Int.emod_nonneg _ (by omega), Int.emod_lt_of_pos _ hn⟩
theorem Qd9 {c : List Int} {t s : Int} {m : Nat} (n : Int) (h : Cu c t m) (hm : m ≤ 900000) : ∃ v t' s', Qx.f c t s n = some (v, t', s') ∧ 0 ≤ v ∧ (v < n ∨ v = 0) ∧ Cu c t' (m + 2) := by
 unfold Qx.f
 by_cases c1 : n ≤ 1
 ·
  rw [if_pos c1]
  exact ⟨_, _, _, rfl, Int.le_refl _, .inr rfl, h.mono (by omega)⟩
 ·
  rw [if_neg c1]
  obtain ⟨v, t', s', e, v0, v1, h'⟩ := Qme (s := s) h (by omega)
  rw [e, Option.bind_some]
  by_cases c2 : n > 200
  ·
   obtain ⟨v2, t2, s2, e2, a0, a1, h2⟩ := Qme (s := s') h' (by omega)
   dsimp only
   rw [if_pos c2, e2, Option.bind_some, if_neg (by omega)]
   dsimp only
   have w : wrap64 (wrap64 (v * 256) + v2) = v * 256 + v2 := by rw [Qdy (x := v * 256) (by omega) (by omega), Qdy (by omega) (by omega)]
   have b := Qmo (a := v * 256 + v2) (n := n) (by omega) (by omega)
   refine ⟨_, _, _, rfl, ?_, .inl ?_, h2⟩
   ·
    show 0 ≤ Int.tmod (wrap64 (wrap64 (v * 256) + v2)) n
    rw [w]; exact b.1
   ·
    show Int.tmod (wrap64 (wrap64 (v * 256) + v2)) n < n
    rw [w]; exact b.2
  ·
   dsimp only
   rw [if_neg c2, if_neg (by omega)]
   have b := Qmo (a := v) (n := n) v0 (by omega)
   exact ⟨_, _, _, rfl, b.1, .inl b.2, h'.mono (by omega)⟩
theorem Qlb {c : List Int} {t s : Int} {m : Nat} (n : Int) (h : Cu c t m) (hm : m ≤ 900000) : ∃ v t' s', Qcx.f c t s n = some (v, t', s') ∧ Cu c t' (m + 2) := by
 obtain ⟨v, t', s', e, _, _, h'⟩ := Qd9 (s := s) n h hm
 unfold Qcx.f
 rw [e, Option.bind_some]
 exact ⟨_, _, _, rfl, h'⟩
theorem Qik {c : List Int} {t s : Int} {m : Nat} (l : List Int) (hl : 0 < l.length) (h : Cu c t m) (hm : m ≤ 900000) : ∃ v t' s', Qcj.f c t s l = some (v, t', s') ∧ v ∈ l ∧ Cu c t' (m + 2) := by
 obtain ⟨v, t', s', e, v0, v1, h'⟩ := Qd9 (s := s) (l.length : Int) h hm
 obtain ⟨i, rfl⟩ : ∃ i : Nat, v = (i : Int) := ⟨v.toNat, by omega⟩
 unfold Qcj.f
 rw [e, Option.bind_some]
 have hi : i < l.length := by omega
 dsimp only
 rw [if_pos (by omega), if_pos (by omega), Qe4 hi]
 exact ⟨_, _, _, rfl, List.getElem_mem hi, h'⟩
def Qh1 (n : Nat) (x : List (List Int)) : Prop := ∀ c ∈ x, ∃ i j : Int, c = [i, j] ∧ 0 ≤ i ∧ i < (n : Int)
theorem Qhv {n : Nat} (hn : n ≤ 1000) (x : List (List Int)) (hx : Qh1 n x) (hl : x.length ≤ 100000) (i : Nat) (hi : i < n) (c : ∀ F : List Int, F.length = n → ∃ R : List Int, R.length = n ∧ Ev (fun k => Q8.l0 k (n : Int) x ((i + 1 : Nat) : Int) F) R) : ∀ (d q : Nat) (F : List Int), q + d = x.length → F.length = n →
  ∃ R : List Int, R.length = n ∧ Ev (fun k => Q8.l1 k (n : Int) x (i : Int) x (x.length : Int) (q : Int) F) R
 | 0, q, F, h, hF => by
  obtain ⟨R, hR, e⟩ := c F hF
  refine ⟨R, hR, Ev.step (fun _ => Q8.l1.eq_2 ..) (Qbh (by omega) ?_)⟩
  rw [Qca (by omega)]; exact e
 | d + 1, q, F, h, hF => by
  have hq : q < x.length := by omega
  obtain ⟨a, b, e, ha, hb⟩ := hx _ (List.getElem_mem hq)
  have er : Qu x (q : Int) = [a, b] := by unfold Qu; simp [List.getD_eq_getElem?_getD, hq, e]
  have e0 : rd [a, b] 0 = a := rfl
  have e1 : rd [a, b] 1 = b := rfl
  have el : (([a, b] : List Int).length : Int) = 2 := rfl
  by_cases cb : b = (i : Int)
  ·
   have ih := Qhv hn x hx hl i hi c d (q + 1)
   obtain ⟨R, hR, ev⟩ := ih (F.set i (Go.bits .or .i64 (rd F (i : Int)) (Go.bits .or .i64 (shl .i64 1 a) (rd F a)))) (by omega) (by rw [List.length_set]; exact hF)
   refine ⟨R, hR, Ev.step (fun _ => Q8.l1.eq_2 ..) (Qk (by omega) (Qk (by omega) (Qk (by omega) ?_)))⟩
   rw [er, e0, e1, el]
   refine Qk (by omega) (Qk cb (Qk (by omega) (Qk (by omega) (Qk (by omega) (Qk ha (Qk (by omega) ?_))))))
   rw [Qca (by omega), Int.toNat_natCast]
   exact ev
  ·
   have ih := Qhv hn x hx hl i hi c d (q + 1)
   obtain ⟨R, hR, ev⟩ := ih F (by omega) hF
   refine ⟨R, hR, Ev.step (fun _ => Q8.l1.eq_2 ..) (Qk (by omega) (Qk (by omega) (Qk (by omega) ?_)))⟩
   rw [er, e1, el]
   refine Qk (by omega) (Qbh cb ?_)
   rw [Qca (by omega)]
   exact ev
theorem Qkc {n : Nat} (hn : n ≤ 1000) (x : List (List Int)) (hx : Qh1 n x) (hl : x.length ≤ 100000) : ∀ (d i : Nat), i + d = n → ∀ F : List Int, F.length = n → ∃ R : List Int, R.length = n ∧ Ev (fun k => Q8.l0 k (n : Int) x (i : Int) F) R
 | 0, i, h, F, hF => ⟨F, hF, Ev.step (fun _ => Q8.l0.eq_2 ..) (Qbh (by omega) (Ev.now _))⟩
 | d + 1, i, h, F, hF => by
  obtain ⟨R, hR, e⟩ := Qhv hn x hx hl i (by omega) (Qkc hn x hx hl d (i + 1) (by omega)) x.length 0 F (by omega) hF
  exact ⟨R, hR, Ev.step (fun _ => Q8.l0.eq_2 ..) (Qk (by omega) e)⟩
theorem Qkd {n : Nat} (hn : n ≤ 1000) (x : List (List Int)) (hx : Qh1 n x) (hl : x.length ≤ 100000) : ∃ R : List Int, R.length = n ∧ Ev (fun k => Q8.f k (n : Int) x) R := by
 obtain ⟨R, hR, e⟩ := Qkc hn x hx hl n 0 (by omega) (List.replicate n 0) (by simp)
 refine ⟨R, hR, Qk (by omega) (Qk (by omega) ?_)⟩
 rw [Int.toNat_natCast]
 exact e
def rectB (a b : Nat) : Bool := match Q1.f 400 (a : Int) (b : Int) with
 | some r => r.length == a * b
 | none => false
theorem rect_all : ((List.range' 1 2).all fun a => (List.range' 1 5).all fun b => rectB a b) = true := by decide +kernel
theorem rect_ok {a b : Nat} (h1 : 1 ≤ a) (h2 : a ≤ 2) (h3 : 1 ≤ b) (h4 : b ≤ 5) : ∃ R : List Int, R.length = a * b ∧ Ev (fun k => Q1.f k (a : Int) (b : Int)) R := by
 have h := rect_all
 rw [List.all_eq_true] at h
 have h := h a (by rw [List.mem_range'_1]; omega)
 rw [List.all_eq_true] at h
 have h := h b (by rw [List.mem_range'_1]; omega)
 unfold rectB at h
 split at h
 ·
  rename_i r e
  exact ⟨r, beq_iff_eq.mp h, Ev.of (Q1.mono _ _) e⟩
 ·
  cases h
def stairB (a : Nat) : Bool := match Qv.f 60 (a : Int) with
 | some r => decide (1 ≤ r.1.length) && decide (r.1.length ≤ 10) && r.2
 | none => false
theorem Qnf : ((List.range' 1 2).all stairB) = true := by decide +kernel
theorem stair_ok {a : Nat} (h1 : 1 ≤ a) (h2 : a ≤ 2) : ∃ R : List Int × Bool, 1 ≤ R.1.length ∧ R.1.length ≤ 10 ∧ Ev (fun k => Qv.f k (a : Int)) R := by
 have h := Qnf
 rw [List.all_eq_true] at h
 have h := h a (by rw [List.mem_range'_1]; omega)
 unfold stairB at h
 split at h
 ·
  rename_i r e
  rw [Bool.and_eq_true, Bool.and_eq_true, decide_eq_true_eq, decide_eq_true_eq] at h
  exact ⟨r, h.1.1, h.1.2, Ev.of (Qv.mono _) e⟩
 ·
  cases h
def fenceB (a : Nat) : Bool := match Qb9.f 400 (a : Int) with
 | some r => r.1.length == a
 | none => false
theorem Qm9 : ((List.range' 1 10).all fenceB) = true := by decide +kernel
theorem fence_ok {a : Nat} (h1 : 1 ≤ a) (h2 : a ≤ 10) : ∃ R : List Int × Bool, R.1.length = a ∧ Ev (fun k => Qb9.f k (a : Int)) R := by
 have h := Qm9
 rw [List.all_eq_true] at h
 have h := h a (by rw [List.mem_range'_1]; omega)
 unfold fenceB at h
 split at h
 ·
  rename_i r e
  exact ⟨r, beq_iff_eq.mp h, Ev.of (Qb9.mono _) e⟩
 ·
  cases h
theorem Qmm {c : List Int} {n : Nat} (hn : 1 ≤ n) (hn2 : n ≤ 10) : ∀ (d : Nat) (x : List (List Int)) (t s : Int) (m : Nat), Cu c t m → m + 4 * d ≤ 100000 → Qh1 n x → x.length + d ≤ 1000 →
  ∃ (R : List Int) (t' s' : Int), R.length = n ∧ Cu c t' (m + 4 * d) ∧ Ev (fun k => Qr.l0 k (n : Int) x (d : Int) c t s) (R, t', s')
 | 0, x, t, s, m, h, hm, hx, hl => by
  obtain ⟨R, hR, e⟩ := Qkd (n := n) (by omega) x hx (by omega)
  refine ⟨R, t, s, hR, h.mono (by omega), Ev.step (fun _ => Qr.l0.eq_2 ..) (Qbh (by omega) (Ev.step (fun _ => Qr.j1.eq_2 ..) (Qbh (by simp) ?_)))⟩
  exact Ev.bind e (Ev.now _)
 | d + 1, x, t, s, m, h, hm, hx, hl => by
  by_cases c1 : n ≤ 1
  ·
   obtain ⟨R, hR, e⟩ := Qkd (n := n) (by omega) x hx (by omega)
   refine ⟨R, t, s, hR, h.mono (by omega), Ev.step (fun _ => Qr.l0.eq_2 ..) (Qk (by omega) (Ev.step (fun _ => Qr.j1.eq_2 ..) (Qbh (by rw [decide_eq_true_eq]; omega) ?_)))⟩
   exact Ev.bind e (Ev.now _)
  ·
   obtain ⟨v, t1, s1, e1, v0, v1, h1⟩ := Qd9 (s := s) (wrap64 ((n : Int) - 1)) h (by omega)
   obtain ⟨v2, t2, s2, e2, w0, w1, h2⟩ := Qd9 (s := s1) (wrap64 (wrap64 ((n : Int) - 1) - v)) h1 (by omega)
   rw [Qdy (x := (n : Int) - 1) (by omega) (by omega)] at v1
   obtain ⟨R, t3, s3, hR, h3, e3⟩ := Qmm hn hn2 d (x ++ [[v, wrap64 (wrap64 (v + 1) + v2)]]) t2 s2 (m + 4) (h2.mono (by omega)) (by omega) (fun z hz => by
    rcases List.mem_append.mp hz with hz | hz
    ·
     exact hx z hz
    ·
     rw [List.mem_singleton] at hz
     exact ⟨v, _, hz, v0, by omega⟩) (by rw [List.length_append, List.length_singleton]; omega)
   refine ⟨R, t3, s3, hR, h3.mono (by omega), Ev.step (fun _ => Qr.l0.eq_2 ..) (Qk (by omega) (Ev.step (fun _ => Qr.j1.eq_2 ..) (Qk (by rw [decide_eq_true_eq]; omega) ?_)))⟩
   refine Qbk e1 (Qbk e2 (Qk (by omega) ?_))
   rw [show wrap64 (((d + 1 : Nat) : Int) - 1) = (d : Int) by rw [Qdy (by omega) (by omega)]; omega]
   exact e3
theorem most_eq (a : Nat) (ha : a ≤ 10) : Qeh.f 1 (wrap64 (Int.tdiv (a : Int) 2)) = some ((max 1 (a / 2) : Nat) : Int) := by
 have e : wrap64 (Int.tdiv (a : Int) 2) = ((a / 2 : Nat) : Int) := by
  rw [Int.tdiv_eq_ediv_of_nonneg (by omega), Qdy (by omega) (by omega)]; omega
 rw [e]; unfold Qeh.f; split <;> (congr 1; omega)
theorem Qgd (n : Nat) (h : n ≤ 1000) : wrap64 (1 + (n : Int)) = ((1 + n : Nat) : Int) := by rw [Qdy (by omega) (by omega)]; omega
def Qi1 (c : List Int) (m : Nat) (f : Nat → Option (List Int × Int × Int)) : Prop := ∃ (R : List Int) (t' s' : Int), 1 ≤ R.length ∧ R.length ≤ 10 ∧ Cu c t' (m + 200) ∧ Ev f (R, t', s')
theorem sure_0 {c : List Int} {t s : Int} {m a : Nat} (ha : 1 ≤ a) (ha2 : a ≤ 10) (h : Cu c t (m + 2)) (hm : m ≤ 10000) :
  Qi1 c m (fun k => (Qx.f c t s 2).bind fun bt176 => (Qeh.f 1 (wrap64 (Int.tdiv (a : Int) 2))).bind fun t179 => (Qx.f c bt176.2.1 bt176.2.2 t179).bind fun bt180 => (Q1.f k (wrap64 (1 + bt176.1)) (wrap64 (1 + bt180.1))).bind fun t183 => some (t183, bt180.2.1, bt180.2.2)) := by
 obtain ⟨w, t2, s2, e2, w0, w1, k2⟩ := Qd9 (s := s) 2 h (by omega)
 obtain ⟨wn, rfl⟩ : ∃ n : Nat, w = (n : Int) := ⟨w.toNat, by omega⟩
 obtain ⟨u, t3, s3, e3, u0, u1, k3⟩ := Qd9 (s := s2) ((max 1 (a / 2) : Nat) : Int) k2 (by omega)
 obtain ⟨un, rfl⟩ : ∃ n : Nat, u = (n : Int) := ⟨u.toNat, by omega⟩
 have hw : 1 + wn ≤ 2 := by omega
 have hu : 1 + un ≤ 5 := by omega
 obtain ⟨R, hR, e4⟩ := rect_ok (a := 1 + wn) (b := 1 + un) (Nat.le_add_right _ _) hw (Nat.le_add_right _ _) hu
 have hl : R.length ≤ 10 := by rw [hR]; exact Nat.mul_le_mul hw hu
 have hl0 : 1 ≤ R.length := by rw [hR]; exact Nat.mul_le_mul (Nat.le_add_right 1 wn) (Nat.le_add_right 1 un)
 refine ⟨R, t3, s3, hl0, hl, k3.mono (by omega), Qbk e2 (Qbk (most_eq a ha2) (Qbk e3 ?_))⟩
 dsimp only
 rw [Qgd wn (by omega), Qgd un (by omega)]
 exact Ev.bind e4 (Ev.now _)
theorem sure_1 {c : List Int} {t s : Int} {m : Nat} (h : Cu c t (m + 2)) (hm : m ≤ 10000) :
  Qi1 c m (fun k => (Qx.f c t s 2).bind fun bt186 => (Qv.f k (wrap64 (1 + bt186.1))).bind fun bt189 => some (bt189.1, bt186.2.1, bt186.2.2)) := by
 obtain ⟨w, t2, s2, e2, w0, w1, k2⟩ := Qd9 (s := s) 2 h (by omega)
 obtain ⟨wn, rfl⟩ : ∃ n : Nat, w = (n : Int) := ⟨w.toNat, by omega⟩
 obtain ⟨R, hR, hR2, e4⟩ := stair_ok (a := 1 + wn) (by omega) (by omega)
 refine ⟨R.1, t2, s2, hR, hR2, k2.mono (by omega), Qbk e2 ?_⟩
 dsimp only
 rw [Qgd wn (by omega)]
 exact Ev.bind e4 (Ev.now _)
theorem sure_2 {c : List Int} {t s : Int} {m a : Nat} (ha : 1 ≤ a) (ha2 : a ≤ 10) (h : Cu c t (m + 2)) (hm : m ≤ 10000) :
  Qi1 c m (fun k => (Qx.f c t s (a : Int)).bind fun bt194 => (Qb9.f k (wrap64 (1 + bt194.1))).bind fun bt197 => some (bt197.1, bt194.2.1, bt194.2.2)) := by
 obtain ⟨w, t2, s2, e2, w0, w1, k2⟩ := Qd9 (s := s) (a : Int) h (by omega)
 obtain ⟨wn, rfl⟩ : ∃ n : Nat, w = (n : Int) := ⟨w.toNat, by omega⟩
 obtain ⟨R, hR, e4⟩ := fence_ok (a := 1 + wn) (by omega) (by omega)
 refine ⟨R.1, t2, s2, by omega, by omega, k2.mono (by omega), Qbk e2 ?_⟩
 dsimp only
 rw [Qgd wn (by omega)]
 exact Ev.bind e4 (Ev.now _)
theorem Qng (n : Nat) (h : n ≤ 1000) : wrap64 (2 * ((n : Nat) : Int)) = ((2 * n : Nat) : Int) := by rw [Qdy (by omega) (by omega)]; omega
theorem sure_3 {c : List Int} {t s : Int} {m a : Nat} (ha : 1 ≤ a) (ha2 : a ≤ 10) (h : Cu c t (m + 2)) (hm : m ≤ 10000) :
  Qi1 c m (fun k => (Qx.f c t s (a : Int)).bind fun bt202 => (Qx.f c bt202.2.1 bt202.2.2 (wrap64 (2 * (wrap64 (1 + bt202.1))))).bind fun bt205 => Qr.l0 k (wrap64 (1 + bt202.1)) ([] : List (List Int)) bt205.1 c bt205.2.1 bt205.2.2) := by
 obtain ⟨w, t2, s2, e2, w0, w1, k2⟩ := Qd9 (s := s) (a : Int) h (by omega)
 obtain ⟨wn, rfl⟩ : ∃ n : Nat, w = (n : Int) := ⟨w.toNat, by omega⟩
 obtain ⟨u, t3, s3, e3, u0, u1, k3⟩ := Qd9 (s := s2) ((2 * (1 + wn) : Nat) : Int) k2 (by omega)
 obtain ⟨un, rfl⟩ : ∃ n : Nat, u = (n : Int) := ⟨u.toNat, by omega⟩
 obtain ⟨R, t4, s4, hR, k4, e4⟩ := Qmm (c := c) (n := 1 + wn) (by omega) (by omega) un [] t3 s3 (m + 6) (k3.mono (by omega)) (by omega) (fun z hz => by cases hz) (by rw [List.length_nil]; omega)
 refine ⟨R, t4, s4, by omega, by omega, k4.mono (by omega), Qbk e2 ?_⟩
 dsimp only
 rw [Qgd wn (by omega), Qng (1 + wn) (by omega)]
 exact Qbk e3 e4
theorem sure_ok {c : List Int} {t s : Int} {m : Nat} {a : Nat} (h1 : 1 ≤ a) (h2 : a ≤ 10) (h : Cu c t m) (hm : m ≤ 10000) : Qi1 c m (fun k => Qr.f k c t s (a : Int)) := by
 obtain ⟨v, t1, s1, e1, v0, v1, k1⟩ := Qd9 (s := s) 5 h (by omega)
 by_cases c0 : v = 0
 ·
  obtain ⟨R, t', s', a1, a2, a3, e⟩ := sure_0 (s := s1) h1 h2 k1 hm
  exact ⟨R, t', s', a1, a2, a3, Qbk e1 (Qk c0 e)⟩
 ·
  by_cases c1 : v = 1
  ·
   obtain ⟨R, t', s', a1, a2, a3, e⟩ := sure_1 (s := s1) k1 hm
   exact ⟨R, t', s', a1, a2, a3, Qbk e1 (Qbh c0 (Qk c1 e))⟩
  ·
   by_cases c2 : v = 2
   ·
    obtain ⟨R, t', s', a1, a2, a3, e⟩ := sure_2 (s := s1) h1 h2 k1 hm
    exact ⟨R, t', s', a1, a2, a3, Qbk e1 (Qbh c0 (Qbh c1 (Qk c2 e)))⟩
   ·
    obtain ⟨R, t', s', a1, a2, a3, e⟩ := sure_3 (s := s1) h1 h2 k1 hm
    exact ⟨R, t', s', a1, a2, a3, Qbk e1 (Qbh c0 (Qbh c1 (Qbh c2 e)))⟩
theorem Qlg (c : List Int) (t s : Int) : ∀ (d i : Nat) (F : List Int), i + d = 11 → F.length + d ≤ 1000 → ∃ R : List Int, R.length = F.length + d ∧ Ev (fun k => Qw.l0 k (i : Int) c t s F) (R, t, s)
 | 0, i, F, h, hF => ⟨F, rfl, Ev.step (fun _ => Qw.l0.eq_2 ..) (Qbh (by omega) (Ev.now _))⟩
 | d + 1, i, F, h, hF => by
  obtain ⟨R, hR, e⟩ := Qlg c t s d (i + 1) (F ++ [0]) (by omega) (by rw [List.length_append, List.length_singleton]; omega)
  refine ⟨R, by rw [hR, List.length_append, List.length_singleton]; omega, Ev.step (fun _ => Qw.l0.eq_2 ..) (Qk (by omega) (Qk (by omega) ?_))⟩
  rw [Qca (by omega)]; exact e
theorem Qgf {c : List Int} {t s : Int} {m : Nat} {a : Nat} (h1 : 1 ≤ a) (h2 : a ≤ 10) (h : Cu c t m) (hm : m ≤ 5000) : ∃ (R : List Int) (t' s' : Int), R.length ≤ 21 ∧ Cu c t' (m + 300) ∧ Ev (fun k => Qw.f k c t s (a : Int)) (R, t', s') := by
 obtain ⟨R, t1, s1, hR, hR2, k1, e1⟩ := sure_ok (s := s) h1 h2 h (by omega)
 obtain ⟨v, t2, s2, e2, v0, v1, k2⟩ := Qd9 (s := s1) 20 k1 (by omega)
 have eo := Qir R (by omega)
 by_cases c0 : v = 0
 ·
  obtain ⟨w, t3, s3, e3, w0, w1, k3⟩ := Qd9 (s := s2) (R.length : Int) k2 (by omega)
  obtain ⟨u, t4, s4, e4, _, k4⟩ := Qik (s := s3) [(-1), 1, 3, shl .i64 1 w, 4611686018427387904] (by simp) k3 (by omega)
  refine ⟨R.set w.toNat u, t4, s4, by rw [List.length_set]; omega, k4.mono (by omega), Ev.bind e1 (Qbk eo (Qbk e2 (Qk c0 (Qbk e3 (Qk w0 (Qbk e4 (Qk ?_ (Ev.now _))))))))⟩
  show w < (R.length : Int)
  omega
 ·
  by_cases c1 : v = 1
  ·
   exact ⟨[], t2, s2, by simp, k2.mono (by omega), Ev.bind e1 (Qbk eo (Qbk e2 (Qbh c0 (Qk c1 (Ev.now _)))))⟩
  ·
   by_cases c2 : v = 2
   ·
    obtain ⟨F, hF, e⟩ := Qlg c t2 s2 11 0 R (by omega) (by omega)
    exact ⟨F, t2, s2, by omega, k2.mono (by omega), Ev.bind e1 (Qbk eo (Qbk e2 (Qbh c0 (Qbh c1 (Qk c2 e)))))⟩
   ·
    exact ⟨R, t2, s2, by omega, k2.mono (by omega), Ev.bind e1 (Qbk eo (Qbk e2 (Qbh c0 (Qbh c1 (Qbh c2 (Ev.now _))))))⟩
theorem least_12 (n : Nat) : Qeb.f (n : Int) 12 = some ((min n 12 : Nat) : Int) := by unfold Qeb.f; split <;> (congr 1; omega)
theorem Qix {c : List Int} {t s : Int} {m : Nat} (l : List Int) (h : Cu c t m) (hm : m ≤ 100000) : ∃ v t' s', Qb1.f c t s l = some (v, t', s') ∧ Cu c t' (m + 8) := by
 obtain ⟨a, t1, s1, e1, _, _, k1⟩ := Qd9 (s := s) 256 h (by omega)
 obtain ⟨b, t2, s2, e2, _, _, k2⟩ := Qd9 (s := s1) 16 k1 (by omega)
 obtain ⟨o, t3, s3, e3, k3⟩ := Qlb (s := s2) 12 k2 (by omega)
 unfold Qb1.f
 rw [least_12, Option.bind_some, e1, Option.bind_some]
 dsimp only
 rw [e2, Option.bind_some, if_pos (by omega)]
 dsimp only
 rw [e3, Option.bind_some]
 dsimp only
 by_cases ho : o = true
 ·
  obtain ⟨u, t4, s4, e4, _, k4⟩ := Qik (s := s3) [(-1), shl .i64 1 ((min l.length 12 : Nat) : Int), 0, wrap64 ((shl .i64 1 ((min l.length 12 : Nat) : Int)) - 1), 4611686018427387904] (by simp) k3 (by omega)
  rw [if_pos ho, e4, Option.bind_some]
  exact ⟨_, _, _, rfl, k4⟩
 ·
  rw [if_neg ho]
  exact ⟨_, _, _, rfl, k3.mono (by omega)⟩
theorem and_nat {s : Nat} (b : Int) (h : s < 2 ^ 62) : ∃ v : Nat, v ≤ s ∧ Go.bits .and .i64 (s : Int) b = (v : Int) := by
 have e1 : (BitVec.ofInt IntKind.i64.bits (s : Int)).toNat = s := by
  show (BitVec.ofInt 64 (s : Int)).toNat = s
  rw [BitVec.toNat_ofInt]; omega
 refine ⟨(BitVec.ofInt IntKind.i64.bits (s : Int)).toNat &&& (BitVec.ofInt IntKind.i64.bits b).toNat, ?_, ?_⟩
 ·
  exact Nat.le_trans Nat.and_le_left (by rw [e1]; exact Nat.le_refl _)
 ·
  simp only [Go.bits, BitVec.toNat_and]
  have h2 : (BitVec.ofInt IntKind.i64.bits (s : Int)).toNat &&& (BitVec.ofInt IntKind.i64.bits b).toNat ≤ s := Nat.le_trans Nat.and_le_left (by rw [e1]; exact Nat.le_refl _)
  exact Qgh (by omega)
def IdR (c : List Int) (M : Nat) (f : Nat → Option (List Int × Int × Int × Int)) : Prop := ∃ (R : List Int) (v t' s' : Int), R.length ≤ 21 ∧ Cu c t' M ∧ Ev f (R, v, t', s')
theorem Qk4 {c : List Int} {t s : Int} {m : Nat} (R : List Int) (v : Int) (b : Bool) (hR : R.length ≤ 21) (h : Cu c t m) (hm : m ≤ 100000) (hb : b = true → setB R v = true) : IdR c (m + 10) (fun k => Qbf.j0 k v b c t s R) := by
 cases b with
 | false => exact ⟨R, v, t, s, hR, h.mono (by omega), Ev.step (fun _ => Qbf.j0.eq_2 ..) (Qbh (by simp) (Ev.now _))⟩
 | true =>
  obtain ⟨p, x, rfl, rfl, g, hx⟩ := Qia (hb rfl)
  have gl := g.le
  obtain ⟨u, t1, s1, e1, k1⟩ := Qix (s := s) (toI p) h hm
  have hx62 : x < 2 ^ 62 := Nat.lt_of_lt_of_le hx (Nat.pow_le_pow_right (by omega) (by omega))
  obtain ⟨w, hw, ew⟩ := and_nat u hx62
  have hw2 : w < 2 ^ p.length := by omega
  refine ⟨toI p, ((Qe6 p (top p w) : Nat) : Int), t1, s1, hR, k1.mono (by omega), Ev.step (fun _ => Qbf.j0.eq_2 ..) (Qk rfl (Qbk e1 ?_))⟩
  dsimp only
  rw [ew]
  exact Ev.bind (poTop_ev g hw2) (Ev.bind (Qht g (top_lt hw2)) (Ev.now _))
theorem ideal_ok {c : List Int} {t s : Int} {m : Nat} {a : Nat} (h1 : 1 ≤ a) (h2 : a ≤ 10) (h : Cu c t m) (hm : m ≤ 4000) : IdR c (m + 1300) (fun k => Qbf.f k c t s (a : Int)) := by
 obtain ⟨R, t1, s1, hR, k1, e1⟩ := Qgf (s := s) h1 h2 h (by omega)
 obtain ⟨v, t2, s2, e2, k2⟩ := Qix (s := s1) R k1 (by omega)
 obtain ⟨Q, w, t3, s3, g3, k3, e3⟩ := Qk4 (s := s2) R v false hR k2 (by omega) (fun e => by cases e)
 by_cases hg : Qel R = true
 ·
  obtain ⟨p, rfl, g⟩ := Qee hg
  by_cases hs : inB v 0 ((2 ^ p.length - 1 : Nat) : Int) = true
  ·
   obtain ⟨o, t4, s4, e4, k4⟩ := Qlb (s := s2) 12 k2 (by omega)
   obtain ⟨Q', w', t5, s5, g5, k5, e5⟩ := Qk4 (s := s4) (toI p) v (!o) hR k4 (by omega) (fun _ => by unfold setB; rw [hg, toI_len, hs]; rfl)
   exact ⟨Q', w', t5, s5, g5, k5.mono (by omega), Ev.bind e1 (Qbk e2 (Ev.bind (Qdg _) (Qk hg (Qbk (Qe1 p v g.le) (Qk hs (Qbk e4 e5))))))⟩
  ·
   exact ⟨Q, w, t3, s3, g3, k3.mono (by omega), Ev.bind e1 (Qbk e2 (Ev.bind (Qdg _) (Qk hg (Qbk (Qe1 p v g.le) (Qbh hs e3)))))⟩
 ·
  exact ⟨Q, w, t3, s3, g3, k3.mono (by omega), Ev.bind e1 (Qbk e2 (Ev.bind (Qdg _) (Qbh hg e3)))⟩
end Go.Proofs.YtkgngggppcmpfaaGreat.M
end
