/- Laws about the given program: the law FnNumbersToggled answers true for every input that its row lets in; no condition is added to the given statement. Contracts of the Go functions that it reaches, and the plain proof over lists. -/
import Derived.Laws.BitsLemmas
import Derived.WalkKit
import Derived.Test.YtkgngggppcmpfaaWFnNumbersToggled0
import Derived.Test.YtkgngggppcmpfaaKFnNumbersToggled0
import Derived.Test.YtkgngggppcmpfaaKFnNumbersToggled1
import Derived.Test.YtkgngggppcmpfaaKFnNumbersToggled2
import Derived.Test.YtkgngggppcmpfaaKFnNumbersToggled3
import Derived.Test.YtkgngggppcmpfaaKFnNumbersToggled4
import Derived.Test.YtkgngggppcmpfaaKFnNumbersToggled5
import Derived.Test.YtkgngggppcmpfaaKFnNumbersToggled6
import Derived.Test.YtkgngggppcmpfaaKSF
section
namespace Go.Proofs.Ytkgngggppcmpfaa.M
open Go.RowKit Go.Proofs.YtkgngggppcmpfaaW.PrintWords Go.Proofs.YtkgngggppcmpfaaW.PrintLast Go.Proofs.YtkgngggppcmpfaaW.PrintMore
theorem wrap_id {x : Int} (h0 : -9223372036854775808 ≤ x) (h1 : x ≤ 9223372036854775807) : wrap64 x = x := by unfold wrap64; omega
theorem wrap_succ {i : Nat} (h : i < 9223372036854775807) : wrap64 ((i : Int) + 1) = ((i + 1 : Nat) : Int) := by unfold wrap64; omega
theorem rd_get {l : List Int} {i : Nat} (h : i < l.length) : rd l (i : Int) = l[i] := by simp [rd, List.getD_eq_getElem?_getD, h]
theorem ev_det {α : Type} {g : Nat → Option α} {r r' : α} (h : Ev g r) (h' : Ev g r') : r = r' := by
 obtain ⟨K, h⟩ := h; obtain ⟨K', h'⟩ := h'
 have a := h (max K K') (by omega); have b := h' (max K K') (by omega)
 exact Option.some.inj (a.symm.trans b)
theorem ev_ite {α : Type} {c : Prop} [Decidable c] {f g : Nat → Option α} {r : α} (h1 : c → Ev f r) (h2 : ¬ c → Ev g r) : Ev (fun k => if c then f k else g k) r := by
 by_cases h : c
 ·
  obtain ⟨K, hK⟩ := h1 h; exact ⟨K, fun k hk => by simp only [if_pos h]; exact hK k hk⟩
 ·
  obtain ⟨K, hK⟩ := h2 h; exact ⟨K, fun k hk => by simp only [if_neg h]; exact hK k hk⟩
theorem ev_pos {α : Type} {c : Prop} [Decidable c] {f g : Nat → Option α} {r : α} (h : c) (h1 : Ev f r) : Ev (fun k => if c then f k else g k) r := ev_ite (fun _ => h1) (fun h2 => absurd h h2)
theorem ev_neg {α : Type} {c : Prop} [Decidable c] {f g : Nat → Option α} {r : α} (h : ¬ c) (h1 : Ev g r) : Ev (fun k => if c then f k else g k) r := ev_ite (fun h2 => absurd h2 h) (fun _ => h1)
theorem ev_call {α β : Type} {x : Option α} {a : α} {f : Nat → α → Option β} {r : β} (h : x = some a) (k : Ev (fun n => f n a) r) : Ev (fun n => x.bind (f n)) r := by subst h; simpa using k
def inB (x lo hi : Int) : Bool := decide (lo ≤ x) && decide (x ≤ hi)
theorem inB_iff {x lo hi : Int} : inB x lo hi = true ↔ lo ≤ x ∧ x ≤ hi := by simp [inB]
def sd (a b : Nat) : Nat := a ^^^ (a &&& b)
theorem sd_bit (a b i : Nat) : (sd a b).testBit i = (a.testBit i && !b.testBit i) := by
 unfold sd; rw [Nat.testBit_xor, Nat.testBit_and]; cases a.testBit i <;> cases b.testBit i <;> rfl
theorem sd_zero {a b : Nat} : sd a b = 0 ↔ ∀ i, a.testBit i = true → b.testBit i = true := by
 constructor
 ·
  intro h i ha
  have := sd_bit a b i
  rw [h, Nat.zero_testBit, ha] at this
  cases hb : b.testBit i
  ·
   rw [hb] at this; simp at this
  ·
   rfl
 ·
  intro h
  apply Nat.eq_of_testBit_eq
  intro i
  rw [sd_bit, Nat.zero_testBit]
  cases ha : a.testBit i
  ·
   rfl
  ·
   rw [h i ha]; rfl
theorem sd_le (a b : Nat) : sd a b ≤ a := by
 have e : sd a b = sd a b &&& a := by
  apply Nat.eq_of_testBit_eq
  intro i
  rw [Nat.testBit_and, sd_bit]
  cases a.testBit i <;> cases b.testBit i <;> rfl
 rw [e]; exact Nat.and_le_right
theorem sd_lt {a : Nat} (b : Nat) {n : Nat} (h : a < 2 ^ n) : sd a b < 2 ^ n := Nat.lt_of_le_of_lt (sd_le a b) h
theorem wrap_nat {x : Nat} (h : x < 2 ^ 63) : IntKind.i64.wrap (x : Int) = (x : Int) := by
 rw [IntKind.wrap_i64]
 have : (x : Int) < 9223372036854775808 := by
  have h2 : (2 : Nat) ^ 63 = 9223372036854775808 := by decide
  omega
 omega
theorem ofInt_nat {a : Nat} (h : a < 2 ^ 63) : (BitVec.ofInt IntKind.i64.bits (a : Int)).toNat = a := by
 have e : IntKind.i64.bits = 64 := rfl
 rw [e, BitVec.ofInt_natCast, BitVec.toNat_ofNat]
 exact Nat.mod_eq_of_lt (Nat.lt_of_lt_of_le h (by decide))
theorem bits_and {a b : Nat} (ha : a < 2 ^ 63) (hb : b < 2 ^ 63) : Go.bits .and .i64 (a : Int) (b : Int) = ((a &&& b : Nat) : Int) := by
 simp only [Go.bits, BitVec.toNat_and, ofInt_nat ha, ofInt_nat hb]
 exact wrap_nat (Nat.and_lt_two_pow _ hb)
theorem bits_andNot {a b : Nat} (ha : a < 2 ^ 63) (hb : b < 2 ^ 63) : Go.bits .andNot .i64 (a : Int) (b : Int) = ((sd a b : Nat) : Int) := by
 have e : (BitVec.ofInt IntKind.i64.bits (a : Int) &&& ~~~(BitVec.ofInt IntKind.i64.bits (b : Int))).toNat = sd a b := by
  apply Nat.eq_of_testBit_eq
  intro i
  rw [BitVec.toNat_and, Nat.testBit_and, ofInt_nat ha, sd_bit]
  cases hai : a.testBit i
  ·
   rfl
  ·
   have hi : i < 64 := by
    apply Nat.lt_of_not_le; intro h
    have : a < 2 ^ i := Nat.lt_of_lt_of_le ha (Nat.pow_le_pow_right (by decide) (by omega))
    rw [Nat.testBit_lt_two_pow this] at hai; cases hai
   have e2 : (~~~(BitVec.ofInt IntKind.i64.bits (b : Int))).toNat.testBit i = (~~~(BitVec.ofInt IntKind.i64.bits (b : Int))).getLsbD i := rfl
   have e3 : (BitVec.ofInt IntKind.i64.bits (b : Int)).getLsbD i = b.testBit i := by
    show (BitVec.ofInt IntKind.i64.bits (b : Int)).toNat.testBit i = _
    rw [ofInt_nat hb]
   rw [e2, BitVec.getLsbD_not, e3]
   have : decide (i < IntKind.i64.bits) = true := decide_eq_true hi
   rw [this, Bool.true_and]
 simp only [Go.bits]
 rw [e]
 exact wrap_nat (sd_lt b ha)
theorem shl_one {i : Nat} (h : i < 63) : shl .i64 1 (i : Int) = ((2 ^ i : Nat) : Int) := by
 unfold shl
 have e : min (i : Int).toNat IntKind.i64.bits = i := by
  have : IntKind.i64.bits = 64 := rfl
  rw [this, Int.toNat_natCast]; omega
 rw [e, Int.one_mul]
 have : ((2 : Int) ^ i) = ((2 ^ i : Nat) : Int) := by simp
 rw [this]
 exact wrap_nat (Nat.pow_lt_pow_right (by decide) h)
theorem shl_one' {i : Nat} (h : i < 62) : wrap64 (shl .i64 1 (i : Int) - 1) = ((2 ^ i - 1 : Nat) : Int) := by
 rw [shl_one (by omega)]
 have h1 : 0 < 2 ^ i := Nat.two_pow_pos i
 have h2 : 2 ^ i ≤ 2 ^ 62 := Nat.pow_le_pow_right (by decide) (by omega)
 have h3 : (2 : Nat) ^ 62 = 4611686018427387904 := by decide
 rw [wrap_id (by omega) (by omega)]; omega
theorem shr_nat {a i : Nat} (h : i ≤ 64) : shr .i64 (a : Int) (i : Int) = ((a / 2 ^ i : Nat) : Int) := by
 unfold shr
 have e : min (i : Int).toNat IntKind.i64.bits = i := by
  have : IntKind.i64.bits = 64 := rfl
  rw [this, Int.toNat_natCast]; omega
 rw [e]; simp
theorem bit_mod {a i : Nat} (h : i ≤ 64) : (Int.tmod (shr .i64 (a : Int) (i : Int)) 2 == 1) = a.testBit i := by
 rw [shr_nat h]
 have : Int.tmod ((a / 2 ^ i : Nat) : Int) 2 = ((a / 2 ^ i % 2 : Nat) : Int) := by
  rw [show (2 : Int) = ((2 : Nat) : Int) from rfl, Int.ofNat_tmod]
 rw [this, Nat.testBit_eq_decide_div_mod_eq, Bool.eq_iff_iff, beq_iff_eq, decide_eq_true_eq]
 omega
theorem bit_mod' {a i : Nat} (h : i ≤ 64) : (Int.tmod (shr .i64 (a : Int) (i : Int)) 2 = 1) ↔ a.testBit i = true := by
 rw [← bit_mod h]; simp
theorem bit_and {a i : Nat} (ha : a < 2 ^ 63) (h : i ≤ 64) : (Go.bits .and .i64 (shr .i64 (a : Int) (i : Int)) 1 == 1) = a.testBit i := by
 rw [shr_nat h, show (1 : Int) = ((1 : Nat) : Int) from rfl, bits_and (Nat.lt_of_le_of_lt (Nat.div_le_self _ _) ha) (by decide), Nat.and_one_is_mod, Nat.testBit_eq_decide_div_mod_eq, Bool.eq_iff_iff, beq_iff_eq, decide_eq_true_eq]
 omega
theorem bit_lt {a i n : Nat} (h : a < 2 ^ n) (hi : a.testBit i = true) : i < n := by
 apply Nat.lt_of_not_le; intro h2
 rw [Nat.testBit_lt_two_pow (Nat.lt_of_lt_of_le h (Nat.pow_le_pow_right (by decide) h2))] at hi; cases hi
theorem lt63 {a n : Nat} (h : a < 2 ^ n) (hn : n ≤ 63) : a < 2 ^ 63 := Nat.lt_of_lt_of_le h (Nat.pow_le_pow_right (by decide) hn)
end Go.Proofs.Ytkgngggppcmpfaa.M
end
section
namespace Go.Proofs.Ytkgngggppcmpfaa.M
set_option linter.unusedVariables false
open Go.RowKit Go.Proofs.YtkgngggppcmpfaaW.PrintWords Go.Proofs.YtkgngggppcmpfaaW.PrintLast Go.Proofs.YtkgngggppcmpfaaW.PrintMore
def toI (p : List Nat) : List Int := p.map fun (x : Nat) => (x : Int)
@[simp] theorem toI_len (p : List Nat) : (toI p).length = p.length := by simp [toI]
@[simp] theorem toI_nil : toI [] = [] := rfl
theorem toI_app (p q : List Nat) : toI (p ++ q) = toI p ++ toI q := by simp [toI]
theorem toI_one (x : Nat) : toI [x] = [(x : Int)] := rfl
theorem toI_set (p : List Nat) (i x : Nat) : (toI p).set i (x : Int) = toI (p.set i x) := by simp [toI, List.map_set]
theorem rd_toI (p : List Nat) (i : Nat) : rd (toI p) (i : Int) = ((p.getD i 0 : Nat) : Int) := by
 simp only [rd, toI, Int.toNat_natCast, List.getD_eq_getElem?_getD, List.getElem?_map]
 cases p[i]? <;> simp
theorem toI_inj {p q : List Nat} (h : toI p = toI q) : p = q := by
 exact (List.map_inj_right (fun a b h => Int.ofNat.inj h)).mp h
def less (p : List Nat) (i : Nat) : Nat := p.getD i 0
theorem less_out {p : List Nat} {i : Nat} (h : p.length ≤ i) : less p i = 0 := by simp [less, List.getD_eq_getElem?_getD, h]
theorem rd_less (p : List Nat) (i : Nat) : rd (toI p) (i : Int) = ((less p i : Nat) : Int) := rd_toI p i
structure Good (p : List Nat) : Prop where
 pos : 1 ≤ p.length
 le : p.length ≤ 10
 lt : ∀ i, i < p.length → less p i < 2 ^ i
 tr : ∀ i, i < p.length → ∀ j, (less p i).testBit j = true → ∀ m, (less p j).testBit m = true → (less p i).testBit m = true
theorem Good.bit {p : List Nat} (g : Good p) {i j : Nat} (h : (less p i).testBit j = true) : j < i ∧ i < p.length := by
 have hi : i < p.length := by
  apply Nat.lt_of_not_le; intro h2; rw [less_out h2, Nat.zero_testBit] at h; cases h
 exact ⟨bit_lt (g.lt i hi) h, hi⟩
theorem Good.lt10 {p : List Nat} (g : Good p) (i : Nat) : less p i < 2 ^ p.length := by
 by_cases hi : i < p.length
 ·
  exact Nat.lt_of_lt_of_le (g.lt i hi) (Nat.pow_le_pow_right (by decide) (by omega))
 ·
  rw [less_out (by omega)]; exact Nat.two_pow_pos _
theorem Good.lt63 {p : List Nat} (g : Good p) (i : Nat) : less p i < 2 ^ 63 := M.lt63 (g.lt10 i) (by have := g.le; omega)
def okAt (l : List Int) (i : Nat) : Bool := inB (l.getD i 0) 0 ((2 ^ i - 1 : Nat) : Int) && (List.range i).all fun j => !((l.getD i 0).toNat.testBit j) || sd (l.getD j 0).toNat (l.getD i 0).toNat == 0
theorem okAt_def (l : List Int) (i : Nat) : okAt l i = (inB (l.getD i 0) 0 ((2 ^ i - 1 : Nat) : Int) && (List.range i).all fun j => !((l.getD i 0).toNat.testBit j) || sd (l.getD j 0).toNat (l.getD i 0).toNat == 0) := rfl
def goodB (l : List Int) : Bool := inB (l.length : Int) 1 10 && (List.range' 0 l.length).all (okAt l)
theorem okAt_nat {l : List Int} {i : Nat} (h : okAt l i = true) : ∃ a : Nat, l.getD i 0 = (a : Int) ∧ a < 2 ^ i := by
 simp only [okAt, Bool.and_eq_true, inB_iff] at h
 have := Nat.two_pow_pos i
 exact ⟨(l.getD i 0).toNat, by omega, by omega⟩
theorem goodB_of {l : List Int} (h : goodB l = true) : ∃ p, l = toI p ∧ Good p := by
 simp only [goodB, Bool.and_eq_true, inB_iff, List.all_eq_true, List.mem_range'_1] at h
 obtain ⟨⟨h1, h2⟩, h3⟩ := h
 have hn : ∀ i, i < l.length → okAt l i = true := fun i hi => h3 i (by omega)
 have e : l = toI (l.map Int.toNat) := by
  apply List.ext_getElem (by simp)
  intro i hi1 hi2
  obtain ⟨a, ha, _⟩ := okAt_nat (hn i hi1)
  have hg : l.getD i 0 = l[i] := by simp [List.getD_eq_getElem?_getD, hi1]
  simp only [toI, List.getElem_map]; omega
 refine ⟨l.map Int.toNat, e, ?_⟩
 have hl : ∀ i, less (l.map Int.toNat) i = (l.getD i 0).toNat := by
  intro i
  simp only [less, List.getD_eq_getElem?_getD, List.getElem?_map]
  cases l[i]? <;> simp
 refine ⟨by simp; omega, by simp; omega, fun i hi => ?_, fun i hi j hj m hm => ?_⟩
 ·
  obtain ⟨a, ha, hb⟩ := okAt_nat (hn i (by simpa using hi))
  rw [hl, ha]; simpa using hb
 ·
  have hi' : i < l.length := by simpa using hi
  have ho := hn i hi'
  obtain ⟨a, ha, hb⟩ := okAt_nat ho
  simp only [okAt, Bool.and_eq_true, List.all_eq_true, List.mem_range, Bool.or_eq_true, Bool.not_eq_true', beq_iff_eq] at ho
  rw [hl] at hj hm ⊢
  have hji : j < i := by rw [ha] at hj; exact bit_lt hb (by simpa using hj)
  rcases ho.2 j hji with hz | hz
  ·
   rw [hj] at hz; cases hz
  ·
   exact sd_zero.mp hz m hm
theorem goodB_toI {p : List Nat} (g : Good p) : goodB (toI p) = true := by
 simp only [goodB, Bool.and_eq_true, inB_iff, List.all_eq_true, List.mem_range'_1, toI_len]
 have hl : ∀ i, (toI p).getD i 0 = (less p i : Int) := fun i => by
  have := rd_less p i
  simpa [rd] using this
 have gp := g.pos
 have gl := g.le
 refine ⟨⟨by omega, by omega⟩, fun i hi => ?_⟩
 have hi' : i < p.length := by omega
 have h1 := g.lt i hi'
 simp only [okAt, Bool.and_eq_true, inB_iff, List.all_eq_true, List.mem_range, Bool.or_eq_true, Bool.not_eq_true', beq_iff_eq, hl, Int.toNat_natCast]
 refine ⟨⟨by omega, by omega⟩, fun j hj => ?_⟩
 cases hb : (less p i).testBit j
 ·
  exact .inl rfl
 ·
  exact .inr (sd_zero.mpr fun m hm => g.tr i hi' j hb m hm)
def items (m : Nat) : List Nat := (List.range 10).filter fun e => m.testBit e
theorem mem_items {m e : Nat} : e ∈ items m ↔ e < 10 ∧ m.testBit e = true := by simp [items]
theorem items_len (m : Nat) : (items m).length ≤ 10 := by
 have := List.length_filter_le (fun e => m.testBit e) (List.range 10)
 simpa [items] using this
def foldBits {α : Type} (n s : Nat) (f : α → Nat → α) (a : α) : α := (List.range n).foldl (fun a e => if s.testBit e = true then f a e else a) a
theorem foldl_items {α : Type} (s : Nat) (f : α → Nat → α) (a : α) : (items s).foldl f a = foldBits 10 s f a := by
 unfold items foldBits; rw [List.foldl_filter]
theorem foldl_none {α : Type} (s : Nat) (f : α → Nat → α) : ∀ (l : List Nat) (a : α), (∀ e ∈ l, s.testBit e = false) → l.foldl (fun a e => if s.testBit e = true then f a e else a) a = a
 | [], _, _ => rfl
 | x :: l, a, h => by
  rw [List.foldl_cons, if_neg (by rw [h x List.mem_cons_self]; simp)]
  exact foldl_none s f l a fun e he => h e (List.mem_cons_of_mem _ he)
theorem foldBits_le {α : Type} {n m s : Nat} (f : α → Nat → α) (a : α) (h : s < 2 ^ n) (hm : n ≤ m) : foldBits m s f a = foldBits n s f a := by
 unfold foldBits
 obtain ⟨d, rfl⟩ := Nat.exists_eq_add_of_le hm
 rw [List.range_add, List.foldl_append]
 apply foldl_none
 intro e he
 simp only [List.mem_map, List.mem_range] at he
 obtain ⟨x, _, rfl⟩ := he
 exact Nat.testBit_lt_two_pow (Nat.lt_of_lt_of_le h (Nat.pow_le_pow_right (by decide) (by omega)))
theorem foldl_items_n {α : Type} {n s : Nat} (f : α → Nat → α) (a : α) (h : s < 2 ^ n) (hn : n ≤ 10) : (items s).foldl f a = foldBits n s f a := by
 rw [foldl_items, foldBits_le f a h hn]
theorem foldBits_succ {α : Type} (n s : Nat) (f : α → Nat → α) (a : α) : foldBits (n + 1) s f a = if s.testBit n = true then f (foldBits n s f a) n else foldBits n s f a := by
 unfold foldBits; rw [List.range_succ, List.foldl_append]; rfl
end Go.Proofs.Ytkgngggppcmpfaa.M
end
section
namespace Go.Proofs.Ytkgngggppcmpfaa.M
open Go.RowKit Go.Proofs.YtkgngggppcmpfaaW.PrintWords Go.Proofs.YtkgngggppcmpfaaW.PrintLast Go.Proofs.YtkgngggppcmpfaaW.PrintMore Go.Proofs.Ytkgngggppcmpfaa.L
theorem l1In_eq (x lo hi : Int) : spec_l1In.f x lo hi = some (inB x lo hi) := by
 unfold spec_l1In.f inB
 by_cases h : lo ≤ x <;> simp [h]
theorem within_eq (x lo hi : Int) : impl_within.f x lo hi = some (inB x lo hi) := by
 unfold impl_within.f inB
 by_cases h : lo ≤ x <;> simp [h]
theorem l1All_l0 (l : List Int) (lo hi : Int) (hl : l.length ≤ 9223372036854775806) : ∀ (d i : Nat), i + d = l.length → Ev (fun k => spec_l1All.l0 k lo hi l (l.length : Int) i) ((l.drop i).all (inB · lo hi))
 | 0, i, h => by
  refine Ev.step (fun _ => rfl) (ev_neg (by omega) ?_)
  rw [List.drop_of_length_le (by omega)]; exact Ev.now _
 | d + 1, i, h => by
  refine Ev.step (fun _ => rfl) (ev_pos (by omega) (ev_pos (by omega) (ev_pos (by omega) (ev_call (l1In_eq _ _ _) ?_))))
  rw [rd_get (by omega : i < l.length), wrap_succ (by omega), List.drop_eq_getElem_cons (by omega : i < l.length), List.all_cons]
  refine ev_ite (fun e => ?_) (fun e => ?_)
  ·
   rw [e, Bool.true_and]; exact l1All_l0 l lo hi hl d (i + 1) (by omega)
  ·
   rw [Bool.eq_false_iff.mpr e, Bool.false_and]; exact Ev.now _
theorem l1All_ev (l : List Int) (lo hi : Int) (hl : l.length ≤ 9223372036854775806) : Ev (fun k => spec_l1All.f k l lo hi) (l.all (inB · lo hi)) := l1All_l0 l lo hi hl l.length 0 (by omega)
end Go.Proofs.Ytkgngggppcmpfaa.M
end
section
namespace Go.Proofs.Ytkgngggppcmpfaa.M
open Go.RowKit Go.Proofs.YtkgngggppcmpfaaW.PrintWords Go.Proofs.YtkgngggppcmpfaaW.PrintLast Go.Proofs.YtkgngggppcmpfaaW.PrintMore Go.Proofs.Ytkgngggppcmpfaa.L
set_option linter.unusedVariables false
theorem has_eq {s e : Nat} (hs : s < 2 ^ 63) (he : e ≤ 64) : impl_has.f (s : Int) (e : Int) = some (s.testBit e) := by
 unfold impl_has.f; rw [if_pos (by omega), bit_and hs he]
theorem poIn_eq {s e : Nat} (he : e ≤ 64) : spec_poIn.f (s : Int) (e : Int) = some (s.testBit e) := by
 unfold spec_poIn.f; rw [if_pos (by omega), bit_mod he]
theorem items_l0 (s : Nat) (hs : s < 2 ^ 63) : ∀ (d i : Nat) (acc : List Nat), i + d = 10 → acc.length ≤ i → Ev (fun k => impl_items.l0 k (s : Int) (toI acc) (i : Int)) (toI (acc ++ (List.range' i d).filter fun e => s.testBit e))
 | 0, i, acc, h, ha => by
  refine Ev.step (fun _ => impl_items.l0.eq_2 ..) (ev_neg (by omega) ?_)
  simpa using Ev.now _
 | d + 1, i, acc, h, ha => by
  refine Ev.step (fun _ => impl_items.l0.eq_2 ..) (ev_pos (by omega) (ev_call (has_eq hs (by omega)) ?_))
  rw [wrap_succ (by omega), List.range'_succ]
  refine ev_ite (fun e => ev_pos (by rw [toI_len]; omega) ?_) (fun e => ?_)
  ·
   rw [← toI_one, ← toI_app, List.filter_cons_of_pos e]
   have := items_l0 s hs d (i + 1) (acc ++ [i]) (by omega) (by simp; omega)
   simpa using this
  ·
   rw [List.filter_cons_of_neg e]
   exact items_l0 s hs d (i + 1) acc (by omega) (by omega)
theorem items_ev {s : Nat} (hs : s < 2 ^ 63) : Ev (fun k => impl_items.f k (s : Int)) (toI (items s)) := by
 have h := items_l0 s hs 10 0 [] (by omega) (by simp)
 rw [List.nil_append, ← List.range_eq_range'] at h
 exact h
theorem n_eq (l : List Int) : impl_Poset_n.f l = some (l.length : Int) := rfl
theorem items_all {m i : Nat} (hm : m < 2 ^ i) (hi : i ≤ 10) (g : Nat → Bool) : (items m).all g = (List.range i).all fun j => !(m.testBit j) || g j := by
 rw [Bool.eq_iff_iff]
 simp only [List.all_eq_true, mem_items, List.mem_range, Bool.or_eq_true, Bool.not_eq_true']
 constructor
 ·
  intro h j hj
  cases hb : m.testBit j
  ·
   exact .inl rfl
  ·
   exact .inr (h j ⟨by omega, hb⟩)
 ·
  rintro h j ⟨_, hb⟩
  rcases h j (bit_lt hm hb) with h2 | h2
  ·
   rw [hb] at h2; cases h2
  ·
   exact h2
theorem pow_small {i : Nat} (h : i ≤ 10) : 2 ^ i ≤ 1024 := by
 have := Nat.pow_le_pow_right (n := 2) (by decide) h
 simpa using this
theorem rd_getD (l : List Int) (i : Nat) : rd l (i : Int) = l.getD i 0 := by simp [rd]
theorem isPoset_l1 (l : List Int) (i m : Nat) (R : Bool) (hl : l.length ≤ 10) (hi : i < l.length) (hm : m < 2 ^ i) (ok : ∀ j, j < i → ∃ a : Nat, l.getD j 0 = (a : Int) ∧ a < 2 ^ j)
  (hR : Ev (fun k => impl_IsPoset.l0 k l (l.length : Int) ((i + 1 : Nat) : Int) l) R) : ∀ (d q : Nat), q + d = (items m).length →
  Ev (fun k => impl_IsPoset.l1 k (m : Int) l (l.length : Int) (i : Int) (toI (items m)) ((toI (items m)).length : Int) (q : Int) l) (((items m).drop q).all (fun j => sd (l.getD j 0).toNat m == 0) && R)
 | 0, q, h => by
  refine Ev.step (fun _ => impl_IsPoset.l1.eq_2 ..) (ev_neg (by rw [toI_len]; omega) ?_)
  rw [List.drop_of_length_le (by omega), List.all_nil, Bool.true_and, wrap_succ (by omega)]
  exact hR
 | d + 1, q, h => by
  have hq : q < (items m).length := by omega
  have hj : (items m)[q] ∈ items m := List.getElem_mem hq
  obtain ⟨_, hb⟩ := mem_items.mp hj
  have hji := bit_lt hm hb
  obtain ⟨a, ha, ha2⟩ := ok _ hji
  have e1 : rd (toI (items m)) (q : Int) = (((items m)[q] : Nat) : Int) := by rw [rd_toI]; simp [List.getD_eq_getElem?_getD, hq]
  have hlen := items_len m
  have hp1 := pow_small (show i ≤ 10 by omega)
  have hp2 := pow_small (show (items m)[q] ≤ 10 by omega)
  refine Ev.step (fun _ => impl_IsPoset.l1.eq_2 ..) ?_
  rw [e1]
  refine ev_pos (by rw [toI_len]; omega) (ev_pos (by omega) (ev_pos (by rw [toI_len]; omega) (ev_pos (by omega) (ev_pos (by omega) ?_))))
  rw [rd_getD, ha, bits_andNot (lt63 ha2 (by omega)) (lt63 hm (by omega)), wrap_succ (by omega), List.drop_eq_getElem_cons hq, List.all_cons, ha, Int.toNat_natCast]
  refine ev_ite (fun e => ?_) (fun e => ?_)
  ·
   have e' : sd a m = 0 := by omega
   rw [e', beq_self_eq_true, Bool.true_and]
   exact isPoset_l1 l i m R hl hi hm ok hR d (q + 1) (by omega)
  ·
   have e' : (sd a m == 0) = false := by rw [beq_eq_false_iff_ne]; omega
   rw [e', Bool.false_and, Bool.false_and]
   exact Ev.now _
theorem isPoset_l0 (l : List Int) (hl : l.length ≤ 10) : ∀ (d i : Nat), i + d = l.length → (∀ j, j < i → ∃ a : Nat, l.getD j 0 = (a : Int) ∧ a < 2 ^ j) →
  Ev (fun k => impl_IsPoset.l0 k l (l.length : Int) (i : Int) l) ((List.range' i d).all (okAt l))
 | 0, i, h, ok => by
  refine Ev.step (fun _ => impl_IsPoset.l0.eq_2 ..) (ev_neg (by omega) ?_)
  exact Ev.now _
 | d + 1, i, h, ok => by
  have hp1 := pow_small (show i ≤ 10 by omega)
  have hpos := Nat.two_pow_pos i
  refine Ev.step (fun _ => impl_IsPoset.l0.eq_2 ..) (ev_pos (by omega) (ev_pos (by omega) (ev_pos (by omega) (ev_call (within_eq _ _ _) ?_))))
  rw [rd_getD, shl_one' (by omega), List.range'_succ, List.all_cons, okAt_def l i]
  refine ev_ite (fun e => ?_) (fun e => ?_)
  ·
   have b := inB_iff.mp e
   obtain ⟨m, hm⟩ : ∃ m : Nat, l.getD i 0 = (m : Int) := ⟨(l.getD i 0).toNat, by omega⟩
   rw [e, Bool.true_and, hm]
   have hm2 : m < 2 ^ i := by omega
   refine Ev.bind (items_ev (lt63 hm2 (by omega))) ?_
   have hnx := isPoset_l0 l hl d (i + 1) (by omega) (fun j hj => by
    by_cases hji : j = i
    ·
     subst hji; exact ⟨m, hm, hm2⟩
    ·
     exact ok j (by omega))
   have := isPoset_l1 l i m _ hl (by omega) hm2 ok hnx (items m).length 0 (by omega)
   rw [List.drop_zero, items_all hm2 (by omega)] at this
   simpa using this
  ·
   rw [Bool.eq_false_iff.mpr e, Bool.false_and, Bool.false_and]
   exact Ev.now _
theorem isPoset_ev (l : List Int) : Ev (fun k => impl_IsPoset.f k l) (goodB l) := by
 refine ev_call (n_eq l) (ev_call (within_eq _ _ _) ?_)
 unfold goodB
 refine ev_ite (fun e => ?_) (fun e => ?_)
 ·
  have b := inB_iff.mp e
  rw [e, Bool.true_and]
  exact isPoset_l0 l (by omega) l.length 0 (by omega) (fun j hj => by omega)
 ·
  rw [Bool.eq_false_iff.mpr e, Bool.false_and]; exact Ev.now _
theorem poGood_l1 (l : List Int) (i m : Nat) (R : Bool) (hl : l.length ≤ 10) (hi : i < l.length) (hm : m < 2 ^ i) (ok : ∀ j, j < i → ∃ a : Nat, l.getD j 0 = (a : Int) ∧ a < 2 ^ j)
  (hR : Ev (fun k => spec_poGood.l0 k l (l.length : Int) ((i + 1 : Nat) : Int) l) R) : ∀ (d j : Nat), j + d = i →
  Ev (fun k => spec_poGood.l1 k (i : Int) (m : Int) (j : Int) l (l.length : Int) (i : Int) l) ((List.range' j d).all (fun j => !(m.testBit j) || sd (l.getD j 0).toNat m == 0) && R)
 | 0, j, h => by
  refine Ev.step (fun _ => spec_poGood.l1.eq_2 ..) (ev_neg (by omega) ?_)
  rw [wrap_succ (by omega)]
  simpa using hR
 | d + 1, j, h => by
  obtain ⟨a, ha, ha2⟩ := ok j (by omega)
  have hp1 := pow_small (show i ≤ 10 by omega)
  have hp2 := pow_small (show j ≤ 10 by omega)
  have ih := poGood_l1 l i m R hl hi hm ok hR d (j + 1) (by omega)
  refine Ev.step (fun _ => spec_poGood.l1.eq_2 ..) (ev_pos (by omega) (ev_pos (by omega) ?_))
  rw [wrap_succ (by omega), List.range'_succ, List.all_cons, rd_getD, ha, bits_andNot (lt63 ha2 (by omega)) (lt63 hm (by omega)), Int.toNat_natCast]
  refine ev_ite (fun e => ?_) (fun e => ?_)
  ·
   rw [bit_mod' (by omega)] at e
   rw [e, Bool.not_true, Bool.false_or]
   refine ev_pos (by omega) (ev_ite (fun e => ?_) (fun e => ?_))
   ·
    have e' : sd a m = 0 := by omega
    rw [e', beq_self_eq_true, Bool.true_and]; exact ih
   ·
    have e' : (sd a m == 0) = false := by rw [beq_eq_false_iff_ne]; omega
    rw [e', Bool.false_and, Bool.false_and]; exact Ev.now _
  ·
   rw [bit_mod' (by omega)] at e
   rw [Bool.eq_false_iff.mpr e, Bool.not_false, Bool.true_or, Bool.true_and]; exact ih
theorem poGood_l0 (l : List Int) (hl : l.length ≤ 10) : ∀ (d i : Nat), i + d = l.length → (∀ j, j < i → ∃ a : Nat, l.getD j 0 = (a : Int) ∧ a < 2 ^ j) →
  Ev (fun k => spec_poGood.l0 k l (l.length : Int) (i : Int) l) ((List.range' i d).all (okAt l))
 | 0, i, h, ok => by
  refine Ev.step (fun _ => spec_poGood.l0.eq_2 ..) (ev_neg (by omega) ?_)
  exact Ev.now _
 | d + 1, i, h, ok => by
  have hp1 := pow_small (show i ≤ 10 by omega)
  have hpos := Nat.two_pow_pos i
  refine Ev.step (fun _ => spec_poGood.l0.eq_2 ..) (ev_pos (by omega) (ev_pos (by omega) (ev_pos (by omega) (ev_call (l1In_eq _ _ _) ?_))))
  rw [rd_getD, shl_one' (by omega), List.range'_succ, List.all_cons, okAt_def l i]
  refine ev_ite (fun e => ?_) (fun e => ?_)
  ·
   have b := inB_iff.mp e
   obtain ⟨m, hm⟩ : ∃ m : Nat, l.getD i 0 = (m : Int) := ⟨(l.getD i 0).toNat, by omega⟩
   rw [e, Bool.true_and, hm]
   have hm2 : m < 2 ^ i := by omega
   have hnx := poGood_l0 l hl d (i + 1) (by omega) (fun j hj => by
    by_cases hji : j = i
    ·
     subst hji; exact ⟨m, hm, hm2⟩
    ·
     exact ok j (by omega))
   have := poGood_l1 l i m _ hl (by omega) hm2 ok hnx i 0 (by omega)
   simpa [List.range_eq_range'] using this
  ·
   rw [Bool.eq_false_iff.mpr e, Bool.false_and, Bool.false_and]
   exact Ev.now _
theorem poGood_ev (l : List Int) : Ev (fun k => spec_poGood.f k l) (goodB l) := by
 refine ev_call (l1In_eq _ _ _) ?_
 unfold goodB
 refine ev_ite (fun e => ?_) (fun e => ?_)
 ·
  have b := inB_iff.mp e
  rw [e, Bool.true_and]
  exact poGood_l0 l (by omega) l.length 0 (by omega) (fun j hj => by omega)
 ·
  rw [Bool.eq_false_iff.mpr e, Bool.false_and]; exact Ev.now _
theorem toNat_toI (p : List Nat) : (toI p).map Int.toNat = p := by
 simp only [toI, List.map_map]
 exact (List.map_congr_left (fun x _ => by simp)).trans (List.map_id p)
theorem items_get {m q : Nat} (hq : q < (items m).length) : (items m)[q] < 10 ∧ m.testBit (items m)[q] = true := mem_items.mp (List.getElem_mem hq)
theorem rd_items {m q : Nat} (hq : q < (items m).length) : rd (toI (items m)) (q : Int) = (((items m)[q] : Nat) : Int) := by rw [rd_toI]; simp [List.getD_eq_getElem?_getD, hq]
def riseAt (p : List Nat) (x : List Int) (i : Nat) : Bool := (List.range i).all fun j => !((less p i).testBit j) || decide (x.getD j 0 ≤ x.getD i 0)
def arrB (p : List Nat) (x : List Int) (b : Int) : Bool := x.all (inB · 0 b) && (List.range' 0 p.length).all (riseAt p x)
structure Arr (p y : List Nat) (b : Nat) : Prop where
 len : y.length = p.length
 hi : ∀ i, y.getD i 0 ≤ b
 up : ∀ i j, (less p i).testBit j = true → y.getD j 0 ≤ y.getD i 0
theorem toI_of_all {x : List Int} {b : Int} (h : x.all (inB · 0 b) = true) : x = toI (x.map Int.toNat) := by
 simp only [List.all_eq_true, inB_iff] at h
 simp only [toI, List.map_map]
 conv => lhs; rw [← List.map_id x]
 apply List.map_congr_left
 intro a ha
 have := h a ha
 simp; omega
theorem toI_getD (y : List Nat) (i : Nat) : (toI y).getD i 0 = ((y.getD i 0 : Nat) : Int) := by
 have := rd_toI y i
 simpa [rd] using this
theorem getD_mem {y : List Nat} {i : Nat} (h : i < y.length) : y.getD i 0 ∈ y := by
 rw [List.getD_eq_getElem?_getD, List.getElem?_eq_getElem h]; exact List.getElem_mem h
theorem arrB_of {p : List Nat} {x : List Int} {b : Nat} (g : Good p) (hl : x.length = p.length) (h : arrB p x (b : Int) = true) : ∃ y, x = toI y ∧ Arr p y b := by
 simp only [arrB, Bool.and_eq_true] at h
 have e := toI_of_all h.1
 refine ⟨x.map Int.toNat, e, by simpa using hl, fun i => ?_, fun i j hj => ?_⟩
 ·
  have h1 := h.1
  simp only [List.all_eq_true, inB_iff] at h1
  by_cases hi : i < (x.map Int.toNat).length
  ·
   obtain ⟨a, ha, e2⟩ := List.mem_map.mp (getD_mem hi)
   have := h1 a ha
   omega
  ·
   rw [List.getD_eq_getElem?_getD, List.getElem?_eq_none (by omega)]; simp
 ·
  have hb := g.bit hj
  have h2 := h.2
  simp only [List.all_eq_true, List.mem_range'_1, riseAt, List.mem_range, Bool.or_eq_true, Bool.not_eq_true', decide_eq_true_eq] at h2
  rcases h2 i ⟨by omega, by omega⟩ j hb.1 with h3 | h3
  ·
   rw [hj] at h3; cases h3
  ·
   rw [e, toI_getD, toI_getD] at h3; omega
theorem arrB_mk {p y : List Nat} {b : Nat} (h : Arr p y b) : arrB p (toI y) (b : Int) = true := by
 simp only [arrB, Bool.and_eq_true, List.all_eq_true, List.mem_range'_1, riseAt, List.mem_range, Bool.or_eq_true, Bool.not_eq_true', decide_eq_true_eq, inB_iff, toI_getD]
 refine ⟨fun a ha => ?_, fun i hi j hj => ?_⟩
 ·
  obtain ⟨n, hn, rfl⟩ := List.mem_map.mp ha
  obtain ⟨i, hi, rfl⟩ := List.mem_iff_getElem.mp hn
  have := h.hi i
  rw [List.getD_eq_getElem?_getD, List.getElem?_eq_getElem hi] at this
  simp at this
  exact ⟨by omega, by omega⟩
 ·
  cases hb : (less p i).testBit j
  ·
   exact .inl rfl
  ·
   exact .inr (by have := h.up i j hb; omega)
def arrayB (l x : List Int) (b : Int) : Bool := goodB l && inB b 0 20 && decide (x.length = l.length) && arrB (l.map Int.toNat) x b
theorem arrayB_of {l x : List Int} {b : Int} (h : arrayB l x b = true) : ∃ (p y : List Nat) (c : Nat), l = toI p ∧ x = toI y ∧ b = (c : Int) ∧ Good p ∧ c ≤ 20 ∧ Arr p y c := by
 simp only [arrayB, Bool.and_eq_true, decide_eq_true_eq, inB_iff] at h
 obtain ⟨⟨⟨h1, h2⟩, h3⟩, h4⟩ := h
 obtain ⟨p, rfl, g⟩ := goodB_of h1
 obtain ⟨c, rfl⟩ : ∃ c : Nat, b = (c : Int) := ⟨b.toNat, by omega⟩
 rw [toNat_toI] at h4
 obtain ⟨y, rfl, ha⟩ := arrB_of g (by simpa using h3) h4
 exact ⟨p, y, c, rfl, rfl, rfl, g, by omega, ha⟩
theorem arrayB_mk {p y : List Nat} {b : Nat} (g : Good p) (hb : b ≤ 20) (h : Arr p y b) : arrayB (toI p) (toI y) (b : Int) = true := by
 simp only [arrayB, Bool.and_eq_true, decide_eq_true_eq, inB_iff]
 refine ⟨⟨⟨goodB_toI g, by omega, by omega⟩, by simpa using h.len⟩, ?_⟩
 rw [toNat_toI]; exact arrB_mk h
theorem pcBound_eq (b : Int) : spec_pcBound.f b = some (inB b 0 20) := by simp [spec_pcBound.f, l1In_eq]
theorem isHigh_ev (l : List Int) (b : Int) : Ev (fun k => impl_isHigh.f k l b) (goodB l && inB b 0 20) := by
 refine Ev.bind (isPoset_ev l) (ev_ite (fun e => ?_) (fun e => ?_))
 ·
  rw [e, Bool.true_and]; exact ev_call (within_eq _ _ _) (Ev.now _)
 ·
  rw [Bool.eq_false_iff.mpr e, Bool.false_and]; exact Ev.now _
theorem pcRises_l1 {p : List Nat} (g : Good p) (x : List Int) (hx : x.length = p.length) (i : Nat) (hi : i < p.length) (R : Bool) (hR : Ev (fun k => spec_pcRises.l0 k x (toI p) ((toI p).length : Int) ((i + 1 : Nat) : Int)) R) : ∀ (d j : Nat), j + d = i →
  Ev (fun k => spec_pcRises.l1 k x (i : Int) ((less p i : Nat) : Int) (j : Int) (toI p) ((toI p).length : Int) (i : Int)) ((List.range' j d).all (fun j => !((less p i).testBit j) || decide (x.getD j 0 ≤ x.getD i 0)) && R)
 | 0, j, h => by
  refine Ev.step (fun _ => spec_pcRises.l1.eq_2 ..) (ev_neg (by omega) ?_)
  rw [wrap_succ (by have := g.le; omega)]; simpa using hR
 | d + 1, j, h => by
  have gl := g.le
  have ih := pcRises_l1 g x hx i hi R hR d (j + 1) (by omega)
  refine Ev.step (fun _ => spec_pcRises.l1.eq_2 ..) (ev_pos (by omega) (ev_call (poIn_eq (by omega)) ?_))
  rw [wrap_succ (by omega), List.range'_succ, List.all_cons, rd_getD, rd_getD]
  refine ev_ite (fun e => ?_) (fun e => ?_)
  ·
   rw [e, Bool.not_true, Bool.false_or]
   refine ev_pos (by omega) (ev_pos (by omega) (ev_pos (by omega) (ev_pos (by omega) (ev_ite (fun e => ?_) (fun e => ?_)))))
   ·
    rw [decide_eq_false (by omega), Bool.false_and, Bool.false_and]; exact Ev.now _
   ·
    rw [decide_eq_true (by omega), Bool.true_and]; exact ih
  ·
   rw [Bool.eq_false_iff.mpr e, Bool.not_false, Bool.true_or, Bool.true_and]; exact ih
theorem pcRises_l0 {p : List Nat} (g : Good p) (x : List Int) (hx : x.length = p.length) : ∀ (d i : Nat), i + d = p.length →
  Ev (fun k => spec_pcRises.l0 k x (toI p) ((toI p).length : Int) (i : Int)) ((List.range' i d).all (riseAt p x))
 | 0, i, h => Ev.step (fun _ => spec_pcRises.l0.eq_2 ..) (ev_neg (by rw [toI_len]; omega) (Ev.now _))
 | d + 1, i, h => by
  refine Ev.step (fun _ => spec_pcRises.l0.eq_2 ..) (ev_pos (by rw [toI_len]; omega) (ev_pos (by omega) (ev_pos (by rw [toI_len]; omega) ?_)))
  rw [rd_less, List.range'_succ, List.all_cons]
  have := pcRises_l1 g x hx i (by omega) _ (pcRises_l0 g x hx d (i + 1) (by omega)) i 0 (by omega)
  rw [← List.range_eq_range'] at this
  exact this
theorem pcRises_ev {p : List Nat} (g : Good p) (x : List Int) (b : Int) (hx : x.length = p.length) : Ev (fun k => spec_pcRises.f k (toI p) x b) (arrB p x b) := by
 refine Ev.bind (l1All_ev x 0 b (by have := g.le; omega)) ?_
 unfold arrB
 refine ev_ite (fun e => ?_) (fun e => ?_)
 ·
  rw [e, Bool.true_and]; exact pcRises_l0 g x hx p.length 0 (by omega)
 ·
  rw [Bool.eq_false_iff.mpr e, Bool.false_and]; exact Ev.now _
theorem areLabels_l1 {p : List Nat} (g : Good p) (x : List Int) (b : Nat) (hb : b ≤ 1000) (hx : x.length = p.length) (i : Nat) (hi : i < p.length) (ok : ∀ j, j < i → inB (x.getD j 0) 0 (b : Int) = true) (R : Bool)
  (hR : Ev (fun k => impl_Poset_areLabels.l0 k x (b : Int) 0 x (x.length : Int) ((i + 1 : Nat) : Int) (toI p)) R) : ∀ (d q : Nat), q + d = (items (less p i)).length →
  Ev (fun k => impl_Poset_areLabels.l1 k x (b : Int) 0 (x.getD i 0) x (x.length : Int) (i : Int) (toI (items (less p i))) ((toI (items (less p i))).length : Int) (q : Int) (toI p)) (((items (less p i)).drop q).all (fun j => decide (x.getD j 0 ≤ x.getD i 0)) && R)
 | 0, q, h => by
  refine Ev.step (fun _ => impl_Poset_areLabels.l1.eq_2 ..) (ev_neg (by rw [toI_len]; omega) ?_)
  rw [List.drop_of_length_le (by omega), wrap_succ (by have := g.le; omega)]; simpa using hR
 | d + 1, q, h => by
  have hq : q < (items (less p i)).length := by omega
  have hm := items_get hq
  have hj := g.bit hm.2
  have gl := g.le
  have hl := items_len (less p i)
  have ok' := inB_iff.mp (ok _ hj.1)
  have ih := areLabels_l1 g x b hb hx i hi ok R hR d (q + 1) (by omega)
  refine Ev.step (fun _ => impl_Poset_areLabels.l1.eq_2 ..) ?_
  rw [rd_items hq, rd_getD, wrap_succ (by omega), Int.add_zero, wrap_id (by omega) (by omega), List.drop_eq_getElem_cons hq, List.all_cons]
  refine ev_pos (by rw [toI_len]; omega) (ev_pos (by omega) (ev_pos (by rw [toI_len]; omega) (ev_pos (by omega) (ev_pos (by omega) (ev_ite (fun e => ?_) (fun e => ?_))))))
  ·
   rw [decide_eq_false (by omega), Bool.false_and, Bool.false_and]; exact Ev.now _
  ·
   rw [decide_eq_true (by omega), Bool.true_and]; exact ih
theorem areLabels_l0 {p : List Nat} (g : Good p) (x : List Int) (b : Nat) (hb : b ≤ 1000) (hx : x.length = p.length) : ∀ (d i : Nat), i + d = p.length → (∀ j, j < i → inB (x.getD j 0) 0 (b : Int) = true) →
  Ev (fun k => impl_Poset_areLabels.l0 k x (b : Int) 0 x (x.length : Int) (i : Int) (toI p)) ((List.range' i d).all (fun i => inB (x.getD i 0) 0 (b : Int) && riseAt p x i))
 | 0, i, h, ok => Ev.step (fun _ => impl_Poset_areLabels.l0.eq_2 ..) (ev_neg (by omega) (Ev.now _))
 | d + 1, i, h, ok => by
  have gl := g.le
  refine Ev.step (fun _ => impl_Poset_areLabels.l0.eq_2 ..) (ev_pos (by omega) (ev_pos (by omega) (ev_pos (by omega) (ev_call (within_eq _ _ _) ?_))))
  rw [rd_getD, List.range'_succ, List.all_cons]
  refine ev_ite (fun e => ?_) (fun e => ?_)
  ·
   rw [e, Bool.true_and]
   refine ev_pos (by rw [toI_len]; omega) ?_
   rw [rd_less]
   refine Ev.bind (items_ev (g.lt63 i)) ?_
   have hn := areLabels_l0 g x b hb hx d (i + 1) (by omega) (fun j hj => by
    by_cases hji : j = i
    ·
     subst hji; exact e
    ·
     exact ok j (by omega))
   have := areLabels_l1 g x b hb hx i (by omega) ok _ hn (items (less p i)).length 0 (by omega)
   rw [List.drop_zero, items_all (g.lt i (by omega)) (by omega)] at this
   exact this
  ·
   rw [Bool.eq_false_iff.mpr e, Bool.false_and, Bool.false_and]; exact Ev.now _
theorem areLabels_ev {p : List Nat} (g : Good p) (x : List Int) (b : Nat) (hb : b ≤ 1000) (hx : x.length = p.length) : Ev (fun k => impl_Poset_areLabels.f k (toI p) x (b : Int) 0) (arrB p x (b : Int)) := by
 refine ev_call (n_eq _) (ev_pos (by rw [toI_len]; omega) ?_)
 have h := areLabels_l0 g x b hb hx p.length 0 (by omega) (fun j hj => by omega)
 have e : (List.range' 0 p.length).all (fun i => inB (x.getD i 0) 0 (b : Int) && riseAt p x i) = arrB p x (b : Int) := by
  unfold arrB
  rw [Bool.eq_iff_iff]
  simp only [Bool.and_eq_true, List.all_eq_true, List.mem_range'_1]
  constructor
  ·
   intro h2
   refine ⟨fun a ha => ?_, fun i hi => (h2 i hi).2⟩
   obtain ⟨i, hi, rfl⟩ := List.mem_iff_getElem.mp ha
   have := (h2 i ⟨by omega, by omega⟩).1
   simpa [List.getD_eq_getElem?_getD, hi] using this
  ·
   rintro ⟨h1, h2⟩ i hi
   refine ⟨h1 _ ?_, h2 i hi⟩
   have hi' : i < x.length := by omega
   rw [List.getD_eq_getElem?_getD, List.getElem?_eq_getElem hi']; exact List.getElem_mem hi'
 rw [← e]; exact h
theorem isArray_ev (l x : List Int) (b : Int) : Ev (fun k => impl_isArray.f k l x b) (arrayB l x b) := by
 refine Ev.bind (isHigh_ev l b) ?_
 unfold arrayB
 refine ev_ite (fun e => ?_) (fun e => ?_)
 ·
  rw [e, Bool.true_and]
  simp only [Bool.and_eq_true, inB_iff] at e
  obtain ⟨p, rfl, g⟩ := goodB_of e.1
  obtain ⟨c, rfl⟩ : ∃ c : Nat, b = (c : Int) := ⟨b.toNat, by omega⟩
  rw [toNat_toI, toI_len]
  by_cases hx : x.length = p.length
  ·
   rw [decide_eq_true hx, Bool.true_and]
   exact Ev.bind (areLabels_ev g x c (by omega) hx) (Ev.now _)
  ·
   rw [decide_eq_false hx, Bool.false_and]
   exact Ev.bind (ev_call (n_eq _) (ev_neg (by rw [toI_len]; omega) (Ev.now false))) (Ev.now _)
 ·
  rw [Bool.eq_false_iff.mpr e, Bool.false_and, Bool.false_and]; exact Ev.now _
theorem pcIs_ev (l x : List Int) (b : Int) : Ev (fun k => spec_pcIs.f k l x b) (arrayB l x b) := by
 refine Ev.bind (poGood_ev l) ?_
 unfold arrayB
 refine ev_ite (fun e => ?_) (fun e => ?_)
 ·
  obtain ⟨p, rfl, g⟩ := goodB_of e
  rw [e, Bool.true_and, toNat_toI, toI_len]
  refine ev_call (pcBound_eq b) (ev_ite (fun e => ?_) (fun e => ?_))
  ·
   rw [e, Bool.true_and]
   refine ev_ite (fun e => ?_) (fun e => ?_)
   ·
    rw [decide_eq_true (by omega), Bool.true_and]
    exact Ev.bind (pcRises_ev g x b (by omega)) (Ev.now _)
   ·
    rw [decide_eq_false (by omega), Bool.false_and]; exact Ev.now _
  ·
   rw [Bool.eq_false_iff.mpr e, Bool.false_and, Bool.false_and]; exact Ev.now _
 ·
  rw [Bool.eq_false_iff.mpr e]; simpa using Ev.now false
def lowN (p y : List Nat) (e : Nat) : Nat := foldBits p.length (less p e) (fun o j => max o (y.getD j 0)) 0
def highN (p y : List Nat) (b e : Nat) : Nat := (List.range' 0 p.length).foldl (fun o i => if (less p i).testBit e = true then min o (y.getD i 0) else o) b
theorem mx_nat (a b : Nat) : mx (a : Int) (b : Int) = ((max a b : Nat) : Int) := by unfold mx; split <;> omega
theorem mn_nat (a b : Nat) : mn (a : Int) (b : Int) = ((min a b : Nat) : Int) := by unfold mn; split <;> omega
theorem l1Most_nat (a b : Nat) : spec_l1Most.f (a : Int) (b : Int) = some ((max a b : Nat) : Int) := by unfold spec_l1Most.f; split <;> (congr 1; omega)
theorem l1Least_nat (a b : Nat) : spec_l1Least.f (a : Int) (b : Int) = some ((min a b : Nat) : Int) := by unfold spec_l1Least.f; split <;> (congr 1; omega)
theorem pcRange_l0 {p y : List Nat} (g : Good p) (hy : y.length = p.length) (e : Nat) (he : e < p.length) : ∀ (d i lo hi : Nat), i + d = p.length →
  Ev (fun k => spec_pcRange.l0 k (toI y) (e : Int) (lo : Int) (hi : Int) (p.length : Int) (i : Int) (toI p))
   ((((List.range' i d).foldl (fun o j => if (less p e).testBit j = true then max o (y.getD j 0) else o) lo : Nat) : Int), (((List.range' i d).foldl (fun o i => if (less p i).testBit e = true then min o (y.getD i 0) else o) hi : Nat) : Int))
 | 0, i, lo, hi, h => Ev.step (fun _ => spec_pcRange.l0.eq_2 ..) (ev_neg (by omega) (Ev.now _))
 | d + 1, i, lo, hi, h => by
  have gl := g.le
  have key : ∀ lo' : Nat, Ev (fun k => spec_pcRange.j1 k (toI y) (e : Int) (lo' : Int) (hi : Int) (i : Int) (p.length : Int) (i : Int) (toI p))
    ((((List.range' (i + 1) d).foldl (fun o j => if (less p e).testBit j = true then max o (y.getD j 0) else o) lo' : Nat) : Int), (((List.range' i (d + 1)).foldl (fun o i => if (less p i).testBit e = true then min o (y.getD i 0) else o) hi : Nat) : Int)) := by
   intro lo'
   refine Ev.step (fun _ => spec_pcRange.j1.eq_2 ..) (ev_pos (by omega) (ev_pos (by rw [toI_len]; omega) ?_))
   rw [rd_less]
   refine ev_call (poIn_eq (by omega)) ?_
   rw [List.range'_succ, List.foldl_cons, wrap_succ (by omega)]
   refine ev_ite (fun e1 => ?_) (fun e1 => ?_)
   ·
    rw [if_pos e1, rd_toI]
    exact ev_pos (by rw [toI_len]; omega) (ev_call (l1Least_nat _ _) (pcRange_l0 g hy e he d (i + 1) lo' _ (by omega)))
   ·
    rw [if_neg e1]; exact pcRange_l0 g hy e he d (i + 1) lo' _ (by omega)
  refine Ev.step (fun _ => spec_pcRange.l0.eq_2 ..) (ev_pos (by omega) (ev_pos (by omega) (ev_pos (by rw [toI_len]; omega) ?_)))
  rw [rd_less]
  refine ev_call (poIn_eq (by omega)) ?_
  rw [show (List.range' i (d + 1)).foldl (fun o j => if (less p e).testBit j = true then max o (y.getD j 0) else o) lo = (List.range' (i + 1) d).foldl (fun o j => if (less p e).testBit j = true then max o (y.getD j 0) else o) (if (less p e).testBit i = true then max lo (y.getD i 0) else lo) by rw [List.range'_succ, List.foldl_cons]]
  refine ev_ite (fun e1 => ?_) (fun e1 => ?_)
  ·
   rw [if_pos e1, rd_toI]
   exact ev_pos (by omega) (ev_pos (by rw [toI_len]; omega) (ev_call (l1Most_nat _ _) (key _)))
  ·
   rw [if_neg e1]; exact key lo
theorem pcRange_ev {p y : List Nat} (g : Good p) (hy : y.length = p.length) (b e : Nat) (he : e < p.length) : Ev (fun k => spec_pcRange.f k (toI p) (toI y) (b : Int) (e : Int)) (((lowN p y e : Nat) : Int), ((highN p y b e : Nat) : Int)) := by
 have h := pcRange_l0 g hy e he p.length 0 0 b (by omega)
 unfold spec_pcRange.f lowN highN foldBits
 rw [toI_len, List.range_eq_range']; exact h
theorem reach_l1 {p y : List Nat} (g : Good p) (hy : y.length = p.length) (e lo : Nat) (he : e < p.length) : ∀ (d i hi : Nat), i + d = p.length →
  Ev (fun k => impl_Poset_reach.l1 k (toI y) (e : Int) (lo : Int) (hi : Int) (p.length : Int) (i : Int) (toI p)) ((lo : Int), (((List.range' i d).foldl (fun o i => if (less p i).testBit e = true then min o (y.getD i 0) else o) hi : Nat) : Int))
 | 0, i, hi, h => Ev.step (fun _ => impl_Poset_reach.l1.eq_2 ..) (ev_neg (by omega) (Ev.now _))
 | d + 1, i, hi, h => by
  have gl := g.le
  refine Ev.step (fun _ => impl_Poset_reach.l1.eq_2 ..) (ev_pos (by omega) (ev_pos (by omega) (ev_pos (by rw [toI_len]; omega) ?_)))
  rw [rd_less]
  refine ev_call (has_eq (g.lt63 _) (by omega)) ?_
  rw [List.range'_succ, List.foldl_cons, wrap_succ (by omega)]
  refine ev_ite (fun e1 => ?_) (fun e1 => ?_)
  ·
   rw [if_pos e1, rd_toI, mn_nat]
   exact ev_pos (by rw [toI_len]; omega) (reach_l1 g hy e lo he d (i + 1) _ (by omega))
  ·
   rw [if_neg e1]; exact reach_l1 g hy e lo he d (i + 1) hi (by omega)
theorem reach_l0 {p y : List Nat} (g : Good p) (hy : y.length = p.length) (e b : Nat) (he : e < p.length) : ∀ (d q lo : Nat), q + d = (items (less p e)).length →
  Ev (fun k => impl_Poset_reach.l0 k (toI y) (e : Int) (lo : Int) (b : Int) (toI (items (less p e))) ((toI (items (less p e))).length : Int) (q : Int) (toI p)) (((((items (less p e)).drop q).foldl (fun o j => max o (y.getD j 0)) lo : Nat) : Int), ((highN p y b e : Nat) : Int))
 | 0, q, lo, h => by
  refine Ev.step (fun _ => impl_Poset_reach.l0.eq_2 ..) (ev_neg (by rw [toI_len]; omega) (ev_call (n_eq _) ?_))
  rw [List.drop_of_length_le (by omega), toI_len]
  exact reach_l1 g hy e lo he p.length 0 b (by omega)
 | d + 1, q, lo, h => by
  have hq : q < (items (less p e)).length := by omega
  have hm := items_get hq
  have hj := g.bit hm.2
  have gl := g.le
  have hl := items_len (less p e)
  refine Ev.step (fun _ => impl_Poset_reach.l0.eq_2 ..) ?_
  rw [rd_items hq, rd_toI, mx_nat, wrap_succ (by omega), List.drop_eq_getElem_cons hq, List.foldl_cons]
  exact ev_pos (by rw [toI_len]; omega) (ev_pos (by omega) (ev_pos (by rw [toI_len]; omega) (ev_pos (by omega) (ev_pos (by rw [toI_len]; omega) (reach_l0 g hy e b he d (q + 1) _ (by omega))))))
theorem reach_ev {p y : List Nat} (g : Good p) (hy : y.length = p.length) (b e : Nat) (he : e < p.length) : Ev (fun k => impl_Poset_reach.f k (toI p) (toI y) (b : Int) (e : Int)) (((lowN p y e : Nat) : Int), ((highN p y b e : Nat) : Int)) := by
 have h := reach_l0 g hy e b he (items (less p e)).length 0 0 (by omega)
 rw [List.drop_zero, foldl_items_n _ _ (g.lt10 e) g.le] at h
 unfold impl_Poset_reach.f
 refine ev_pos (by omega) (ev_pos (by rw [toI_len]; omega) ?_)
 rw [rd_less]
 exact Ev.bind (items_ev (g.lt63 e)) h
theorem tgElement_eq (l : List Int) (e : Int) (h : l.length ≤ 1048576) : spec_tgElement.f l e = some (inB e 0 ((l.length : Int) - 1)) := by
 unfold spec_tgElement.f; rw [wrap_id (by omega) (by omega), l1In_eq]; rfl
theorem agree_FnExactRangeAt (l x : List Int) (b e : Int) (hl : l.length ≤ 1048576) (_ : x.length ≤ 1048576) : ∃ r : Int × Int × Bool, Ev (fun k => spec_RangeAt.f k l x b e) r ∧ Ev (fun k => impl_RangeAt.f k l x b e) r := by
 by_cases h : arrayB l x b = true
 ·
  by_cases h2 : inB e 0 ((l.length : Int) - 1) = true
  ·
   obtain ⟨p, y, c, rfl, rfl, rfl, g, hc, ha⟩ := arrayB_of h
   have b2 := inB_iff.mp h2
   rw [toI_len] at b2
   obtain ⟨e, rfl⟩ : ∃ e' : Nat, e = (e' : Int) := ⟨e.toNat, by omega⟩
   refine ⟨_, Ev.bind (pcIs_ev _ _ _) (ev_pos h (ev_call (tgElement_eq _ _ hl) (ev_pos h2 (Ev.bind (pcRange_ev g ha.len c e (by omega)) (Ev.now _))))), Ev.bind (isArray_ev _ _ _) (ev_pos h (ev_call (n_eq _) ?_))⟩
   rw [wrap_id (by omega) (by omega)]
   exact ev_call (within_eq _ _ _) (ev_pos h2 (Ev.bind (reach_ev g ha.len c e (by omega)) (Ev.now _)))
  ·
   refine ⟨(0, 0, false), Ev.bind (pcIs_ev _ _ _) (ev_pos h (ev_call (tgElement_eq _ _ hl) (ev_neg h2 (Ev.now _)))), Ev.bind (isArray_ev _ _ _) (ev_pos h (ev_call (n_eq _) ?_))⟩
   rw [wrap_id (by omega) (by omega)]
   exact ev_call (within_eq _ _ _) (ev_neg h2 (Ev.now _))
 ·
  exact ⟨(0, 0, false), Ev.bind (pcIs_ev _ _ _) (ev_neg h (Ev.now _)), Ev.bind (isArray_ev _ _ _) (ev_neg h (Ev.now _))⟩
theorem l1Own_eq (l : List Int) (h : l.length < 17592186044416) : spec_l1Own.f l = some l := by
 unfold spec_l1Own.f; rw [Option.bind_some, if_pos (by simpa using h)]; rfl
theorem Clone_eq (l : List Int) (h : l.length < 17592186044416) : slices_Clone_int_int.f l = some l := by unfold slices_Clone_int_int.f; rw [if_pos h]
theorem numbered_l0 (n : Nat) (hn : n ≤ 1000) : ∀ (d i : Nat) (acc : List Nat), i + d = n → acc.length = i → Ev (fun k => impl_numbered.l0 k (toI acc) (n : Int) (i : Int)) (toI (acc ++ List.range' i d))
 | 0, i, acc, h, ha => by
  refine Ev.step (fun _ => impl_numbered.l0.eq_2 ..) (ev_neg (by omega) ?_)
  simpa using Ev.now _
 | d + 1, i, acc, h, ha => by
  refine Ev.step (fun _ => impl_numbered.l0.eq_2 ..) (ev_pos (by omega) (ev_pos (by rw [toI_len]; omega) ?_))
  rw [wrap_succ (by omega), ← toI_one, ← toI_app, List.range'_succ]
  have := numbered_l0 n hn d (i + 1) (acc ++ [i]) (by omega) (by simp [ha])
  simpa using this
theorem numbered_ev (n : Nat) (hn : n ≤ 1000) : Ev (fun k => impl_numbered.f k (n : Int)) (toI (List.range n)) := by
 have := numbered_l0 n hn n 0 [] (by omega) rfl
 rw [List.nil_append, ← List.range_eq_range'] at this; exact this
theorem reverse_l0 (l : List Int) (hl : l.length ≤ 1000000) : ∀ (d i j : Nat) (x : List Int), i + j + 1 = l.length → j + 1 ≤ i + d → (hx : x.length = l.length) →
  (∀ t (h : t < x.length), x[t] = if t < i ∨ j < t then l[l.length - 1 - t]'(by omega) else l[t]'(by omega)) → Ev (fun k => slices_Reverse_int_int.l0 k x (i : Int) (j : Int)) l.reverse
 | 0, i, j, x, h, hd, hx, ht => by
  refine Ev.step (fun _ => slices_Reverse_int_int.l0.eq_2 ..) (ev_neg (by omega) ?_)
  have e : x = l.reverse := by
   apply List.ext_getElem (by simpa using hx)
   intro t h1 h2
   rw [ht t h1, List.getElem_reverse]
   split
   ·
    rfl
   ·
    congr 1; omega
  rw [e]; exact Ev.now _
 | d + 1, i, j, x, h, hd, hx, ht => by
  by_cases hij : i < j
  ·
   refine Ev.step (fun _ => slices_Reverse_int_int.l0.eq_2 ..) (ev_pos (by omega) (ev_pos (by omega) (ev_pos (by omega) (ev_pos (by omega) (ev_pos (by omega) ?_)))))
   have hi : i < x.length := by omega
   have hj : j < x.length := by omega
   rw [rd_get hi, rd_get hj, wrap_succ (by omega), wrap_id (x := (j : Int) - 1) (by omega) (by omega), show ((j : Int) - 1) = ((j - 1 : Nat) : Int) by omega, Int.toNat_natCast, Int.toNat_natCast]
   refine reverse_l0 l hl d (i + 1) (j - 1) _ (by omega) (by omega) (by simpa using hx) (fun t h1 => ?_)
   have h1' : t < x.length := by simpa using h1
   rw [List.getElem_set, List.getElem_set]
   by_cases c1 : j = t
   ·
    subst c1
    rw [if_pos rfl, if_pos (by omega)]
    refine (ht i hi).trans ?_
    rw [if_neg (by omega)]
    congr 1; omega
   ·
    rw [if_neg c1]
    by_cases c2 : i = t
    ·
     subst c2
     rw [if_pos rfl, if_pos (by omega)]
     refine (ht j hj).trans ?_
     rw [if_neg (by omega)]
     congr 1; omega
    ·
     rw [if_neg c2, ht t h1']
     by_cases c3 : t < i ∨ j < t
     ·
      rw [if_pos c3, if_pos (by omega)]
     ·
      rw [if_neg c3, if_neg (by omega)]
  ·
   refine Ev.step (fun _ => slices_Reverse_int_int.l0.eq_2 ..) (ev_neg (by omega) ?_)
   have e : x = l.reverse := by
    apply List.ext_getElem (by simpa using hx)
    intro t h1 h2
    rw [ht t h1, List.getElem_reverse]
    split
    ·
     rfl
    ·
     congr 1; omega
   rw [e]; exact Ev.now _
theorem reverse_ev (l : List Int) (hl : l.length ≤ 1000000) : Ev (fun k => slices_Reverse_int_int.f k l) l.reverse := by
 unfold slices_Reverse_int_int.f
 cases hn : l with
 | nil => exact Ev.step (fun _ => slices_Reverse_int_int.l0.eq_2 ..) (ev_neg (by simp [wrap64]) (Ev.now _))
 | cons x t =>
  rw [← hn]
  have hp : 0 < l.length := by rw [hn]; simp
  rw [wrap_id (by omega) (by omega), show ((l.length : Int) - 1) = ((l.length - 1 : Nat) : Int) by omega]
  refine reverse_l0 l hl l.length 0 (l.length - 1) l (by omega) (by omega) rfl (fun t h => ?_)
  rw [if_neg (by omega)]
theorem toI_rev (p : List Nat) : (toI p).reverse = toI p.reverse := by simp [toI]
theorem foldMax_le {s m : Nat} (f : Nat → Nat) : ∀ (n a : Nat), foldBits n s (fun o j => max o (f j)) a ≤ m ↔ (a ≤ m ∧ ∀ j, j < n → s.testBit j = true → f j ≤ m)
 | 0, a => by simp [foldBits]
 | n + 1, a => by
  rw [foldBits_succ]
  have ih := foldMax_le (s := s) (m := m) f n a
  split
  ·
   rename_i hs
   rw [Nat.max_le, ih]
   constructor
   ·
    rintro ⟨⟨h1, h2⟩, h3⟩
    refine ⟨h1, fun j hj hb => ?_⟩
    by_cases e : j = n
    ·
     subst e; exact h3
    ·
     exact h2 j (by omega) hb
   ·
    rintro ⟨h1, h2⟩
    exact ⟨⟨h1, fun j hj hb => h2 j (by omega) hb⟩, h2 n (by omega) hs⟩
  ·
   rename_i hs
   rw [ih]
   constructor
   ·
    rintro ⟨h1, h2⟩
    refine ⟨h1, fun j hj hb => ?_⟩
    by_cases e : j = n
    ·
     subst e; exact absurd hb hs
    ·
     exact h2 j (by omega) hb
   ·
    rintro ⟨h1, h2⟩
    exact ⟨h1, fun j hj hb => h2 j (by omega) hb⟩
theorem foldMin_le {m : Nat} (c : Nat → Bool) (f : Nat → Nat) : ∀ (l : List Nat) (a : Nat), m ≤ l.foldl (fun o i => if c i = true then min o (f i) else o) a ↔ (m ≤ a ∧ ∀ i, i ∈ l → c i = true → m ≤ f i)
 | [], a => by simp
 | x :: l, a => by
  rw [List.foldl_cons, foldMin_le c f l]
  by_cases h : c x = true
  ·
   rw [if_pos h, Nat.le_min]
   simp only [List.mem_cons]
   constructor
   ·
    rintro ⟨⟨h1, h2⟩, h3⟩
    refine ⟨h1, fun i hi hc => ?_⟩
    rcases hi with rfl | hi
    ·
     exact h2
    ·
     exact h3 i hi hc
   ·
    rintro ⟨h1, h2⟩
    exact ⟨⟨h1, h2 x (.inl rfl) h⟩, fun i hi hc => h2 i (.inr hi) hc⟩
  ·
   rw [if_neg h]
   simp only [List.mem_cons]
   constructor
   ·
    rintro ⟨h1, h2⟩
    refine ⟨h1, fun i hi hc => ?_⟩
    rcases hi with rfl | hi
    ·
     exact absurd hc h
    ·
     exact h2 i hi hc
   ·
    rintro ⟨h1, h2⟩
    exact ⟨h1, fun i hi hc => h2 i (.inr hi) hc⟩
theorem lowN_le {p y : List Nat} (g : Good p) {e m : Nat} : lowN p y e ≤ m ↔ ∀ j, (less p e).testBit j = true → y.getD j 0 ≤ m := by
 unfold lowN; rw [foldMax_le]
 constructor
 ·
  rintro ⟨_, h⟩ j hb; exact h j (by have := g.bit hb; omega) hb
 ·
  intro h; exact ⟨by omega, fun j _ hb => h j hb⟩
theorem le_highN {p y : List Nat} (g : Good p) {b e m : Nat} : m ≤ highN p y b e ↔ (m ≤ b ∧ ∀ i, (less p i).testBit e = true → m ≤ y.getD i 0) := by
 unfold highN; rw [foldMin_le (fun i => (less p i).testBit e)]
 constructor
 ·
  rintro ⟨h1, h⟩; exact ⟨h1, fun i hb => h i (by have := g.bit hb; simp; omega) hb⟩
 ·
  rintro ⟨h1, h⟩; exact ⟨h1, fun i _ hb => h i hb⟩
theorem low_le {p y : List Nat} {b : Nat} (g : Good p) (a : Arr p y b) (e : Nat) : lowN p y e ≤ y.getD e 0 := (lowN_le g).mpr fun j hb => a.up e j hb
theorem le_high {p y : List Nat} {b : Nat} (g : Good p) (a : Arr p y b) (e : Nat) : y.getD e 0 ≤ highN p y b e := (le_highN g).mpr ⟨a.hi e, fun i hb => a.up i e hb⟩
theorem high_le_b {p y : List Nat} (g : Good p) (b e : Nat) : highN p y b e ≤ b := ((le_highN g).mp (Nat.le_refl _)).1
def tgN (p : List Nat) (b : Nat) (y : List Nat) (e : Nat) : List Nat := y.set e (lowN p y e + highN p y b e - y.getD e 0)
theorem getD_set (y : List Nat) (e v i : Nat) : (y.set e v).getD i 0 = if i = e ∧ e < y.length then v else y.getD i 0 := by
 simp only [List.getD_eq_getElem?_getD, List.getElem?_set]
 by_cases h : e = i
 ·
  subst h
  by_cases h2 : e < y.length
  ·
   simp [h2]
  ·
   simp [h2]
 ·
  simp [h, Ne.symm h]
theorem tgN_len (p : List Nat) (b : Nat) (y : List Nat) (e : Nat) : (tgN p b y e).length = y.length := by simp [tgN]
theorem tgN_get (p : List Nat) (b : Nat) (y : List Nat) (e i : Nat) : (tgN p b y e).getD i 0 = if i = e ∧ e < y.length then lowN p y e + highN p y b e - y.getD e 0 else y.getD i 0 := getD_set ..
theorem Arr.tg {p y : List Nat} {b : Nat} (g : Good p) (a : Arr p y b) (e : Nat) : Arr p (tgN p b y e) b := by
 have h1 := low_le g a e
 have h2 := le_high g a e
 have h3 := high_le_b (y := y) g b e
 refine ⟨by rw [tgN_len]; exact a.len, fun i => ?_, fun i j hb => ?_⟩
 ·
  rw [tgN_get]; split
  ·
   omega
  ·
   exact a.hi i
 ·
  have hj := g.bit hb
  have hu := a.up i j hb
  rw [tgN_get, tgN_get]
  by_cases c1 : j = e ∧ e < y.length
  ·
   rw [if_pos c1, if_neg (by omega)]
   have := ((le_highN (y := y) (b := b) g (e := e)).mp (Nat.le_refl _)).2 i (by rw [← c1.1]; exact hb)
   omega
  ·
   rw [if_neg c1]
   by_cases c2 : i = e ∧ e < y.length
   ·
    rw [if_pos c2]
    have := (lowN_le (y := y) g (e := e)).mp (Nat.le_refl _) j (by rw [← c2.1]; exact hb)
    omega
   ·
    rw [if_neg c2]; exact hu
theorem tg_val {p y : List Nat} {b : Nat} (g : Good p) (a : Arr p y b) (hb : b ≤ 20) (e : Nat) : wrap64 (wrap64 (((lowN p y e : Nat) : Int) + ((highN p y b e : Nat) : Int)) - rd (toI y) (e : Int)) = ((lowN p y e + highN p y b e - y.getD e 0 : Nat) : Int) := by
 have h1 := low_le g a e
 have h2 := le_high g a e
 have h3 := high_le_b (y := y) g b e
 have h4 := a.hi e
 rw [rd_toI, wrap_id (x := ((lowN p y e : Nat) : Int) + ((highN p y b e : Nat) : Int)) (by omega) (by omega), wrap_id (by omega) (by omega)]; omega
theorem Arr.small {p y : List Nat} {b : Nat} (g : Good p) (a : Arr p y b) : y.length ≤ 10 := by rw [a.len]; exact g.le
theorem pcAt_ev {p y : List Nat} {b : Nat} (g : Good p) (a : Arr p y b) (hb : b ≤ 20) {e : Nat} (he : e < p.length) : Ev (fun k => spec_pcAt.f k (toI p) (toI y) (b : Int) (e : Int)) (toI (tgN p b y e)) := by
 have hl := a.small g
 refine Ev.bind (pcRange_ev g a.len b e he) (ev_call (l1Own_eq _ (by rw [toI_len]; omega)) (ev_pos (by omega) (ev_pos (by rw [toI_len, a.len]; omega) (ev_pos (by rw [toI_len, a.len]; omega) ?_))))
 simp only
 rw [tg_val g a hb, Int.toNat_natCast, toI_set]; exact Ev.now _
theorem turn_l0 {p : List Nat} {b : Nat} (g : Good p) (hb : b ≤ 20) (w : List Nat) (hw : ∀ e ∈ w, e < p.length) (hl : w.length ≤ 1000000) : ∀ (d i : Nat) (y : List Nat), i + d = w.length → Arr p y b →
  Ev (fun k => impl_Poset_turn.l0 k (toI y) (b : Int) (toI w) ((toI w).length : Int) (i : Int) (toI p)) (toI ((w.drop i).foldl (tgN p b) y))
 | 0, i, y, h, a => by
  refine Ev.step (fun _ => impl_Poset_turn.l0.eq_2 ..) (ev_neg (by rw [toI_len]; omega) ?_)
  rw [List.drop_of_length_le (by omega)]; exact Ev.now _
 | d + 1, i, y, h, a => by
  have hi : i < w.length := by omega
  have he := hw _ (List.getElem_mem hi)
  have e1 : rd (toI w) (i : Int) = ((w[i] : Nat) : Int) := by rw [rd_toI]; simp [List.getD_eq_getElem?_getD, hi]
  refine Ev.step (fun _ => impl_Poset_turn.l0.eq_2 ..) ?_
  rw [e1]
  refine ev_pos (by rw [toI_len]; omega) (ev_pos (by omega) (ev_pos (by rw [toI_len]; omega) (Ev.bind (reach_ev g a.len b _ he) (ev_pos (by omega) (ev_pos (by rw [toI_len, a.len]; omega) ?_)))))
  simp only
  rw [tg_val g a hb, Int.toNat_natCast, toI_set, wrap_succ (by omega), List.drop_eq_getElem_cons hi, List.foldl_cons]
  exact turn_l0 g hb w hw hl d (i + 1) _ (by omega) (a.tg g _)
theorem turn_ev {p y : List Nat} {b : Nat} (g : Good p) (a : Arr p y b) (hb : b ≤ 20) (w : List Nat) (hw : ∀ e ∈ w, e < p.length) (hl : w.length ≤ 1000000) : Ev (fun k => impl_Poset_turn.f k (toI p) (toI y) (b : Int) (toI w)) (toI (w.foldl (tgN p b) y)) := by
 have := turn_l0 g hb w hw hl w.length 0 y (by omega) a
 rw [List.drop_zero] at this; exact this
theorem Arr.fold {p : List Nat} {b : Nat} (g : Good p) : ∀ (w y : List Nat), Arr p y b → Arr p (w.foldl (tgN p b) y) b
 | [], _, a => a
 | e :: w, y, a => Arr.fold g w _ (a.tg g e)
def wordB (n : Nat) (w : List Int) (m : Nat) : Bool := decide (w.length ≤ m) && w.all (inB · 0 ((n : Int) - 1))
theorem wordB_of {n m : Nat} {w : List Int} (h : wordB n w m = true) : ∃ v, w = toI v ∧ v.length ≤ m ∧ ∀ e ∈ v, e < n := by
 simp only [wordB, Bool.and_eq_true, decide_eq_true_eq] at h
 have e := toI_of_all h.2
 refine ⟨w.map Int.toNat, e, by simpa using h.1, fun x hx => ?_⟩
 obtain ⟨a, ha, rfl⟩ := List.mem_map.mp hx
 have := inB_iff.mp (List.all_eq_true.mp h.2 a ha)
 omega
theorem areElements_eq (p : List Nat) (w : List Int) (m : Nat) (hp : p.length ≤ 10) (hw : w.length ≤ 9223372036854775806) : impl_areElements.f (toI p) w (m : Int) = some (wordB p.length w m) := by
 unfold impl_areElements.f wordB
 rw [if_pos hw]
 by_cases h : w.length ≤ m
 ·
  rw [if_pos (by omega), decide_eq_true h, Bool.true_and]
  congr 1
  rw [Bool.eq_iff_iff]
  simp only [impl_areElements.p, toI_len, wrap_id (x := (p.length : Int) - 1) (by omega) (by omega), inB, Bool.not_eq_true', List.any_eq_false, List.all_eq_true, Bool.and_eq_true, decide_eq_true_eq]
  simp
 ·
  rw [if_neg (by omega), decide_eq_false h, Bool.false_and]
theorem tgIsWord_ev (p : List Nat) (w : List Int) (hp : p.length ≤ 10) (hw : w.length ≤ 9223372036854775806) : Ev (fun k => spec_tgIsWord.f k (toI p) w) (wordB p.length w 100) := by
 unfold spec_tgIsWord.f wordB
 rw [toI_len, wrap_id (by omega) (by omega)]
 refine ev_ite (fun e => ?_) (fun e => ?_)
 ·
  rw [decide_eq_true (by omega), Bool.true_and]
  exact Ev.bind (l1All_ev w 0 _ hw) (Ev.now _)
 ·
  rw [decide_eq_false (by omega), Bool.false_and]; exact Ev.now _
theorem specTN_l0 {p : List Nat} {b : Nat} (g : Good p) (hb : b ≤ 20) (w : List Nat) (hw : ∀ e ∈ w, e < p.length) (hl : w.length ≤ 1000000) : ∀ (d i : Nat) (y : List Nat), i + d = w.length → Arr p y b →
  Ev (fun k => spec_ToggleNumbers.l0 k (b : Int) (toI y) (toI w) ((toI w).length : Int) (i : Int) (toI p)) (toI ((w.drop i).foldl (tgN p b) y), true)
 | 0, i, y, h, a => by
  refine Ev.step (fun _ => spec_ToggleNumbers.l0.eq_2 ..) (ev_neg (by rw [toI_len]; omega) ?_)
  rw [List.drop_of_length_le (by omega)]; exact Ev.now _
 | d + 1, i, y, h, a => by
  have hi : i < w.length := by omega
  have he := hw _ (List.getElem_mem hi)
  have e1 : rd (toI w) (i : Int) = ((w[i] : Nat) : Int) := by rw [rd_toI]; simp [List.getD_eq_getElem?_getD, hi]
  refine Ev.step (fun _ => spec_ToggleNumbers.l0.eq_2 ..) ?_
  rw [e1]
  refine ev_pos (by rw [toI_len]; omega) (ev_pos (by omega) (ev_pos (by rw [toI_len]; omega) (Ev.bind (pcAt_ev g a hb he) ?_)))
  rw [wrap_succ (by omega), List.drop_eq_getElem_cons hi, List.foldl_cons]
  exact specTN_l0 g hb w hw hl d (i + 1) _ (by omega) (a.tg g _)
theorem fold_len (p : List Nat) (b : Nat) : ∀ (w y : List Nat), (w.foldl (tgN p b) y).length = y.length
 | [], _ => rfl
 | e :: w, y => by rw [List.foldl_cons, fold_len p b w, tgN_len]
theorem togN_ev (l x : List Int) (b : Int) (w : List Int) (hw : w.length ≤ 1048576) : ∃ r : List Int × Bool, r.1.length ≤ 1000 ∧ Ev (fun k => spec_ToggleNumbers.f k l x b w) r ∧ Ev (fun k => impl_ToggleNumbers.f k l x b w) r := by
 by_cases h : arrayB l x b = true
 ·
  obtain ⟨p, y, c, rfl, rfl, rfl, g, hc, a⟩ := arrayB_of h
  have hs := a.small g
  by_cases h2 : wordB p.length w 100 = true
  ·
   obtain ⟨v, rfl, hv, hvn⟩ := wordB_of h2
   refine ⟨(toI (v.foldl (tgN p c) y), true), by simp [fold_len]; omega, ?_, ?_⟩
   ·
    refine Ev.bind (pcIs_ev _ _ _) (ev_pos h (Ev.bind (tgIsWord_ev p _ g.le (by omega)) ?_))
    rw [h2]
    refine Ev.step (fun _ => spec_ToggleNumbers.j0.eq_2 ..) (ev_neg (by simp) (ev_call (l1Own_eq _ (by rw [toI_len]; omega)) ?_))
    have := specTN_l0 g hc v hvn (by omega) v.length 0 y (by omega) a
    rw [List.drop_zero] at this; exact this
   ·
    refine Ev.bind (isArray_ev _ _ _) (ev_pos h (ev_call (areElements_eq p _ 100 g.le (by omega)) ?_))
    rw [h2]
    exact Ev.step (fun _ => impl_ToggleNumbers.j0.eq_2 ..) (ev_neg (by simp) (ev_call (Clone_eq _ (by rw [toI_len]; omega)) (Ev.bind (turn_ev g a hc v hvn (by omega)) (Ev.now _))))
  ·
   refine ⟨([], false), by simp, ?_, ?_⟩
   ·
    refine Ev.bind (pcIs_ev _ _ _) (ev_pos h (Ev.bind (tgIsWord_ev p _ g.le (by omega)) ?_))
    rw [Bool.eq_false_iff.mpr h2]
    exact Ev.step (fun _ => spec_ToggleNumbers.j0.eq_2 ..) (ev_pos rfl (Ev.now _))
   ·
    refine Ev.bind (isArray_ev _ _ _) (ev_pos h (ev_call (areElements_eq p _ 100 g.le (by omega)) ?_))
    rw [Bool.eq_false_iff.mpr h2]
    exact Ev.step (fun _ => impl_ToggleNumbers.j0.eq_2 ..) (ev_pos rfl (Ev.now _))
 ·
  refine ⟨([], false), by simp, Ev.bind (pcIs_ev _ _ _) (ev_neg h ?_), Ev.bind (isArray_ev _ _ _) (ev_neg h ?_)⟩
  ·
   exact Ev.step (fun _ => spec_ToggleNumbers.j0.eq_2 ..) (ev_pos rfl (Ev.now _))
  ·
   exact Ev.step (fun _ => impl_ToggleNumbers.j0.eq_2 ..) (ev_pos rfl (Ev.now _))
theorem agree_FnExactToggleNumbers (l x : List Int) (b : Int) (w : List Int) (_ : l.length ≤ 1048576) (_ : x.length ≤ 1048576) (hw : w.length ≤ 1048576) : ∃ r : List Int × Bool, r.1.length ≤ 1000 ∧ Ev (fun k => spec_ToggleNumbers.f k l x b w) r ∧ Ev (fun k => impl_ToggleNumbers.f k l x b w) r := togN_ev l x b w hw
theorem agree_FnExactToggleNumber (l x : List Int) (b e : Int) (hl : l.length ≤ 1048576) (_ : x.length ≤ 1048576) : ∃ r : List Int × Bool, r.1.length ≤ 1000 ∧ Ev (fun k => spec_ToggleNumber.f k l x b e) r ∧ Ev (fun k => impl_ToggleNumber.f k l x b e) r := by
 by_cases h : arrayB l x b = true
 ·
  have h' := h
  obtain ⟨p, y, c, rfl, rfl, rfl, g, hc, a⟩ := arrayB_of h
  have hs := a.small g
  by_cases h2 : inB e 0 (((toI p).length : Int) - 1) = true
  ·
   have b2 := inB_iff.mp h2
   rw [toI_len] at b2
   obtain ⟨e, rfl⟩ : ∃ e' : Nat, e = (e' : Int) := ⟨e.toNat, by omega⟩
   have hw : wordB p.length [(e : Int)] 100 = true := by simp [wordB, inB]; omega
   refine ⟨(toI (tgN p c y e), true), by simp [tgN_len]; omega, ?_, ?_⟩
   ·
    exact Ev.bind (pcIs_ev _ _ _) (ev_pos h (ev_call (tgElement_eq _ _ hl) (ev_pos h2 (Ev.bind (pcAt_ev g a hc (by omega)) (Ev.now _)))))
   ·
    refine Ev.bind (a := (toI (tgN p c y e), true)) ?_ (Ev.now _)
    refine Ev.bind (isArray_ev _ _ _) (ev_pos h (ev_call (areElements_eq p _ 100 g.le (by simp)) ?_))
    rw [hw]
    have := turn_ev g a hc [e] (by simp; omega) (by simp)
    exact Ev.step (fun _ => impl_ToggleNumbers.j0.eq_2 ..) (ev_neg (by simp) (ev_call (Clone_eq _ (by rw [toI_len]; omega)) (Ev.bind this (Ev.now _))))
  ·
   have hw : wordB p.length [e] 100 = false := by
    rw [toI_len] at h2
    simp only [wordB, List.all_cons, List.all_nil, Bool.and_true, Bool.eq_false_iff.mpr h2, Bool.and_false]
   refine ⟨([], false), by simp, ?_, ?_⟩
   ·
    exact Ev.bind (pcIs_ev _ _ _) (ev_pos h (ev_call (tgElement_eq _ _ hl) (ev_neg h2 (Ev.now _))))
   ·
    refine Ev.bind (a := ([], false)) ?_ (Ev.now _)
    refine Ev.bind (isArray_ev _ _ _) (ev_pos h (ev_call (areElements_eq p _ 100 g.le (by simp)) ?_))
    rw [hw]
    exact Ev.step (fun _ => impl_ToggleNumbers.j0.eq_2 ..) (ev_pos rfl (Ev.now _))
 ·
  refine ⟨([], false), by simp, Ev.bind (pcIs_ev _ _ _) (ev_neg h (Ev.now _)), Ev.bind (a := ([], false)) (Ev.bind (isArray_ev _ _ _) (ev_neg h ?_)) (Ev.now _)⟩
  exact Ev.step (fun _ => impl_ToggleNumbers.j0.eq_2 ..) (ev_pos rfl (Ev.now _))
def rowN (p : List Nat) (b : Nat) (y : List Nat) : List Nat := (List.range p.length).reverse.foldl (tgN p b) y
def backN (p : List Nat) (b : Nat) (y : List Nat) : List Nat := (List.range p.length).foldl (tgN p b) y
theorem Arr.row {p y : List Nat} {b : Nat} (g : Good p) (a : Arr p y b) : Arr p (rowN p b y) b := Arr.fold g _ _ a
theorem Arr.back {p y : List Nat} {b : Nat} (g : Good p) (a : Arr p y b) : Arr p (backN p b y) b := Arr.fold g _ _ a
def iter {α : Type} (f : α → α) : Nat → α → α
 | 0, x => x
 | n + 1, x => iter f n (f x)
theorem iter_len {p : List Nat} {b : Nat} {f : List Nat → List Nat} (hf : ∀ y, (f y).length = y.length) : ∀ (n : Nat) (y : List Nat), (iter f n y).length = y.length
 | 0, _ => rfl
 | n + 1, y => by rw [iter, iter_len (p := p) (b := b) hf n, hf]
theorem pcRow_l0 {p : List Nat} {b : Nat} (g : Good p) (hb : b ≤ 20) : ∀ (i : Nat) (y : List Nat), i ≤ p.length → Arr p y b → Ev (fun k => spec_pcRow.l0 k (b : Int) (toI y) ((i : Int) - 1) (toI p)) (toI ((List.range i).reverse.foldl (tgN p b) y))
 | 0, y, h, a => by
  refine Ev.step (fun _ => spec_pcRow.l0.eq_2 ..) (ev_neg (by omega) ?_)
  exact Ev.now _
 | i + 1, y, h, a => by
  refine Ev.step (fun _ => spec_pcRow.l0.eq_2 ..) (ev_pos (by omega) ?_)
  have gl := g.le
  rw [show (((i + 1 : Nat) : Int) - 1) = (i : Int) by omega, wrap_id (by omega) (by omega), List.range_succ, List.reverse_append, List.reverse_singleton, List.singleton_append, List.foldl_cons]
  exact Ev.bind (pcAt_ev g a hb (by omega)) (pcRow_l0 g hb i _ (by omega) (a.tg g i))
theorem pcRow_ev {p y : List Nat} {b : Nat} (g : Good p) (a : Arr p y b) (hb : b ≤ 20) : Ev (fun k => spec_pcRow.f k (toI p) (toI y) (b : Int)) (toI (rowN p b y)) := by
 have gl := g.le
 have hl := a.small g
 refine ev_call (l1Own_eq _ (by rw [toI_len]; omega)) ?_
 rw [toI_len, wrap_id (by omega) (by omega)]
 exact pcRow_l0 g hb p.length y (Nat.le_refl _) a
theorem pcBack_l0 {p : List Nat} {b : Nat} (g : Good p) (hb : b ≤ 20) : ∀ (d i : Nat) (y : List Nat), i + d = p.length → Arr p y b → Ev (fun k => spec_pcBack.l0 k (b : Int) (toI y) (p.length : Int) (i : Int) (toI p)) (toI ((List.range' i d).foldl (tgN p b) y))
 | 0, i, y, h, a => Ev.step (fun _ => spec_pcBack.l0.eq_2 ..) (ev_neg (by omega) (Ev.now _))
 | d + 1, i, y, h, a => by
  have gl := g.le
  refine Ev.step (fun _ => spec_pcBack.l0.eq_2 ..) (ev_pos (by omega) (Ev.bind (pcAt_ev g a hb (by omega)) ?_))
  rw [wrap_succ (by omega), List.range'_succ, List.foldl_cons]
  exact pcBack_l0 g hb d (i + 1) _ (by omega) (a.tg g i)
theorem pcBack_ev {p y : List Nat} {b : Nat} (g : Good p) (a : Arr p y b) (hb : b ≤ 20) : Ev (fun k => spec_pcBack.f k (toI p) (toI y) (b : Int)) (toI (backN p b y)) := by
 have hl := a.small g
 refine ev_call (l1Own_eq _ (by rw [toI_len]; omega)) ?_
 rw [toI_len]
 have := pcBack_l0 g hb p.length 0 y (by omega) a
 rw [← List.range_eq_range'] at this; exact this
theorem specRAT_l1 {p : List Nat} {b : Nat} (g : Good p) (hb : b ≤ 20) : ∀ (n : Nat) (y : List Nat), n ≤ 1000 → Arr p y b → Ev (fun k => spec_RowArrayTimes.l1 k (b : Int) (-(n : Int)) (toI y) (toI p)) (toI (iter (backN p b) n y), true)
 | 0, y, h, a => Ev.step (fun _ => spec_RowArrayTimes.l1.eq_2 ..) (ev_neg (by omega) (Ev.now _))
 | n + 1, y, h, a => by
  refine Ev.step (fun _ => spec_RowArrayTimes.l1.eq_2 ..) (ev_pos (by omega) (Ev.bind (pcBack_ev g a hb) ?_))
  rw [wrap_id (by omega) (by omega), show (-((n + 1 : Nat) : Int) + 1) = -(n : Int) by omega]
  exact specRAT_l1 g hb n _ (by omega) (a.back g)
theorem specRAT_l0 {p : List Nat} {b : Nat} (g : Good p) (hb : b ≤ 20) : ∀ (n : Nat) (y : List Nat), n ≤ 1000 → Arr p y b → Ev (fun k => spec_RowArrayTimes.l0 k (b : Int) (n : Int) (toI y) (toI p)) (toI (iter (rowN p b) n y), true)
 | 0, y, h, a => Ev.step (fun _ => spec_RowArrayTimes.l0.eq_2 ..) (ev_neg (by omega) (specRAT_l1 g hb 0 y (by omega) a))
 | n + 1, y, h, a => by
  refine Ev.step (fun _ => spec_RowArrayTimes.l0.eq_2 ..) (ev_pos (by omega) (Ev.bind (pcRow_ev g a hb) ?_))
  rw [wrap_id (by omega) (by omega), show (((n + 1 : Nat) : Int) - 1) = (n : Int) by omega]
  exact specRAT_l0 g hb n _ (by omega) (a.row g)
theorem specRAT_l0' {p : List Nat} {b : Nat} (g : Good p) (hb : b ≤ 20) (n : Nat) (y : List Nat) (h : n ≤ 1000) (a : Arr p y b) : Ev (fun k => spec_RowArrayTimes.l0 k (b : Int) (-(n : Int)) (toI y) (toI p)) (toI (iter (backN p b) n y), true) :=
 Ev.step (fun _ => spec_RowArrayTimes.l0.eq_2 ..) (ev_neg (by omega) (specRAT_l1 g hb n y h a))
theorem implRAT_l0 {p : List Nat} {b : Nat} (g : Good p) (hb : b ≤ 20) (w : List Nat) (hw : ∀ e ∈ w, e < p.length) (hl : w.length ≤ 1000) (m : Nat) (hm : m ≤ 1000) : ∀ (d i : Nat) (y : List Nat), i + d = m → Arr p y b →
  Ev (fun k => impl_RowArrayTimes.l0 k (b : Int) (toI y) (toI w) (m : Int) (i : Int) (toI p)) (toI (iter (fun z => w.foldl (tgN p b) z) d y), true)
 | 0, i, y, h, a => Ev.step (fun _ => impl_RowArrayTimes.l0.eq_2 ..) (ev_neg (by omega) (Ev.now _))
 | d + 1, i, y, h, a => by
  refine Ev.step (fun _ => impl_RowArrayTimes.l0.eq_2 ..) (ev_pos (by omega) (Ev.bind (turn_ev g a hb w hw (by omega)) ?_))
  rw [wrap_succ (by omega)]
  exact implRAT_l0 g hb w hw hl m hm d (i + 1) _ (by omega) (Arr.fold g w y a)
theorem rowN_len (p : List Nat) (b : Nat) (y : List Nat) : (rowN p b y).length = y.length := fold_len p b _ y
theorem backN_len (p : List Nat) (b : Nat) (y : List Nat) : (backN p b y).length = y.length := fold_len p b _ y
theorem RAT_ev (l x : List Int) (b m : Int) (hl : l.length ≤ 1048576) (hx : x.length ≤ 1048576) : ∃ r : List Int × Bool, r.1.length ≤ 1000 ∧ Ev (fun k => spec_RowArrayTimes.f k l x b m) r ∧ Ev (fun k => impl_RowArrayTimes.f k l x b m) r ∧
  (arrayB l x b = false → r = ([], false)) ∧ (∀ p y c, l = toI p → x = toI y → b = ((c : Nat) : Int) → Good p → c ≤ 20 → Arr p y c → (m = 1 → r = (toI (rowN p c y), true)) ∧ (m = -1 → r = (toI (backN p c y), true))) := by
 by_cases h : arrayB l x b = true
 ·
  obtain ⟨p, y, c, rfl, rfl, rfl, g, hc, a⟩ := arrayB_of h
  have hs := a.small g
  have gl := g.le
  by_cases h2 : inB m (-1000) 1000 = true
  ·
   have b2 := inB_iff.mp h2
   have hcl := Clone_eq (toI y) (by rw [toI_len]; omega)
   have hown := l1Own_eq (toI y) (by rw [toI_len]; omega)
   by_cases hpos : 0 < m
   ·
    obtain ⟨n, rfl⟩ : ∃ n : Nat, m = (n : Int) := ⟨m.toNat, by omega⟩
    refine ⟨(toI (iter (rowN p c) n y), true), by simp [iter_len (p := p) (b := c) (rowN_len p c)]; omega, ?_, ?_, by rw [h]; simp, ?_⟩
    ·
     refine Ev.bind (pcIs_ev _ _ _) (ev_pos h (ev_call (l1In_eq _ _ _) ?_))
     rw [h2]
     exact Ev.step (fun _ => spec_RowArrayTimes.j0.eq_2 ..) (ev_neg (by simp) (ev_call hown (specRAT_l0 g hc n y (by omega) a)))
    ·
     refine Ev.bind (isArray_ev _ _ _) (ev_pos h (ev_call (within_eq _ _ _) ?_))
     rw [h2]
     refine Ev.step (fun _ => impl_RowArrayTimes.j0.eq_2 ..) (ev_neg (by simp) (ev_call hcl (ev_call (n_eq _) ?_)))
     rw [toI_len]
     refine Ev.bind (numbered_ev p.length (by omega)) (ev_pos (by omega) (Ev.bind (reverse_ev _ (by simp; omega)) (Ev.step (fun _ => impl_RowArrayTimes.j1.eq_2 ..) ?_)))
     have e : mx (n : Int) (wrap64 (-(n : Int))) = (n : Int) := by rw [wrap_id (by omega) (by omega)]; unfold mx; omega
     rw [e, toI_rev]
     exact implRAT_l0 g hc (List.range p.length).reverse (by simp) (by simp; omega) n (by omega) n 0 y (by omega) a
    ·
     intro p' y' c' e1 e2 e3 _ _ _
     obtain rfl := toI_inj e1
     obtain rfl := toI_inj e2
     obtain rfl : c = c' := by omega
     exact ⟨fun e => by
      obtain rfl : n = 1 := by omega
      rfl, fun e => by omega⟩
   ·
    obtain ⟨n, rfl⟩ : ∃ n : Nat, m = -(n : Int) := ⟨(-m).toNat, by omega⟩
    refine ⟨(toI (iter (backN p c) n y), true), by simp [iter_len (p := p) (b := c) (backN_len p c)]; omega, ?_, ?_, by rw [h]; simp, ?_⟩
    ·
     refine Ev.bind (pcIs_ev _ _ _) (ev_pos h (ev_call (l1In_eq _ _ _) ?_))
     rw [h2]
     exact Ev.step (fun _ => spec_RowArrayTimes.j0.eq_2 ..) (ev_neg (by simp) (ev_call hown (specRAT_l0' g hc n y (by omega) a)))
    ·
     refine Ev.bind (isArray_ev _ _ _) (ev_pos h (ev_call (within_eq _ _ _) ?_))
     rw [h2]
     refine Ev.step (fun _ => impl_RowArrayTimes.j0.eq_2 ..) (ev_neg (by simp) (ev_call hcl (ev_call (n_eq _) ?_)))
     rw [toI_len]
     refine Ev.bind (numbered_ev p.length (by omega)) (ev_neg (by omega) (Ev.step (fun _ => impl_RowArrayTimes.j1.eq_2 ..) ?_))
     have e : mx (-(n : Int)) (wrap64 (- -(n : Int))) = (n : Int) := by rw [wrap_id (by omega) (by omega)]; unfold mx; split <;> omega
     rw [e]
     exact implRAT_l0 g hc (List.range p.length) (by simp) (by simp; omega) n (by omega) n 0 y (by omega) a
    ·
     intro p' y' c' e1 e2 e3 _ _ _
     obtain rfl := toI_inj e1
     obtain rfl := toI_inj e2
     obtain rfl : c = c' := by omega
     exact ⟨fun e => by omega, fun e => by
      obtain rfl : n = 1 := by omega
      rfl⟩
  ·
   refine ⟨([], false), by simp, ?_, ?_, by simp, fun _ _ _ _ _ _ _ _ _ => ⟨fun e => by subst e; exact absurd (by decide) h2, fun e => by subst e; exact absurd (by decide) h2⟩⟩
   ·
    refine Ev.bind (pcIs_ev _ _ _) (ev_pos h (ev_call (l1In_eq _ _ _) ?_))
    rw [Bool.eq_false_iff.mpr h2]
    exact Ev.step (fun _ => spec_RowArrayTimes.j0.eq_2 ..) (ev_pos rfl (Ev.now _))
   ·
    refine Ev.bind (isArray_ev _ _ _) (ev_pos h (ev_call (within_eq _ _ _) ?_))
    rw [Bool.eq_false_iff.mpr h2]
    exact Ev.step (fun _ => impl_RowArrayTimes.j0.eq_2 ..) (ev_pos rfl (Ev.now _))
 ·
  refine ⟨([], false), by simp, Ev.bind (pcIs_ev _ _ _) (ev_neg h ?_), Ev.bind (isArray_ev _ _ _) (ev_neg h ?_), by simp, fun p y c e1 e2 e3 g hc a => ?_⟩
  ·
   exact Ev.step (fun _ => spec_RowArrayTimes.j0.eq_2 ..) (ev_pos rfl (Ev.now _))
  ·
   exact Ev.step (fun _ => impl_RowArrayTimes.j0.eq_2 ..) (ev_pos rfl (Ev.now _))
  ·
   exact absurd (by rw [e1, e2, e3]; exact arrayB_mk g hc a) h
theorem agree_FnExactRowArrayTimes (l x : List Int) (b m : Int) (hl : l.length ≤ 1048576) (hx : x.length ≤ 1048576) : ∃ r : List Int × Bool, r.1.length ≤ 1000 ∧ Ev (fun k => spec_RowArrayTimes.f k l x b m) r ∧ Ev (fun k => impl_RowArrayTimes.f k l x b m) r := by
 obtain ⟨r, h1, h2, h3, _⟩ := RAT_ev l x b m hl hx
 exact ⟨r, h1, h2, h3⟩
theorem agree_FnExactRowArray (l x : List Int) (b : Int) (hl : l.length ≤ 1048576) (hx : x.length ≤ 1048576) : ∃ r : List Int × Bool, r.1.length ≤ 1000 ∧ Ev (fun k => spec_RowArray.f k l x b) r ∧ Ev (fun k => impl_RowArray.f k l x b) r := by
 obtain ⟨r, h1, _, h3, h4, h5⟩ := RAT_ev l x b 1 hl hx
 refine ⟨r, h1, ?_, Ev.bind h3 (Ev.now _)⟩
 by_cases h : arrayB l x b = true
 ·
  obtain ⟨p, y, c, rfl, rfl, rfl, g, hc, a⟩ := arrayB_of h
  rw [(h5 p y c rfl rfl rfl g hc a).1 rfl]
  exact Ev.bind (pcIs_ev _ _ _) (ev_pos h (Ev.bind (pcRow_ev g a hc) (Ev.now _)))
 ·
  rw [h4 (Bool.eq_false_iff.mpr h)]
  exact Ev.bind (pcIs_ev _ _ _) (ev_neg h (Ev.now _))
theorem agree_FnExactRowArrayBack (l x : List Int) (b : Int) (hl : l.length ≤ 1048576) (hx : x.length ≤ 1048576) : ∃ r : List Int × Bool, r.1.length ≤ 1000 ∧ Ev (fun k => spec_RowArrayBack.f k l x b) r ∧ Ev (fun k => impl_RowArrayBack.f k l x b) r := by
 obtain ⟨r, h1, _, h3, h4, h5⟩ := RAT_ev l x b (-1) hl hx
 refine ⟨r, h1, ?_, Ev.bind h3 (Ev.now _)⟩
 by_cases h : arrayB l x b = true
 ·
  obtain ⟨p, y, c, rfl, rfl, rfl, g, hc, a⟩ := arrayB_of h
  rw [(h5 p y c rfl rfl rfl g hc a).2 rfl]
  exact Ev.bind (pcIs_ev _ _ _) (ev_pos h (Ev.bind (pcBack_ev g a hc) (Ev.now _)))
 ·
  rw [h4 (Bool.eq_false_iff.mpr h)]
  exact Ev.bind (pcIs_ev _ _ _) (ev_neg h (Ev.now _))
def dotN : Nat → List Int → Int
 | _, [] => 0
 | c, v :: vs => ((c % 64 : Nat) : Int) * v + dotN (c / 64) vs
def lowc : Nat → Nat → Bool
 | 0, _ => true
 | n + 1, c => Nat.blt (c % 64) 32 && lowc n (c / 64)
theorem dot_add : ∀ (v : List Int) (c d : Nat), lowc v.length c = true → lowc v.length d = true → dotN (c + d) v = dotN c v + dotN d v
 | [], _, _, _, _ => rfl
 | x :: v, c, d, h1, h2 => by
  simp only [List.length_cons, lowc, Bool.and_eq_true, Nat.blt_eq] at h1 h2
  have e1 : (c + d) % 64 = c % 64 + d % 64 := by omega
  have e2 : (c + d) / 64 = c / 64 + d / 64 := by omega
  rw [dotN, dotN, dotN, e1, e2, dot_add v _ _ h1.2 h2.2, Int.natCast_add, Int.add_mul]
  omega
theorem dot_zero : ∀ v : List Int, dotN 0 v = 0
 | [] => rfl
 | x :: v => by rw [dotN, Nat.zero_mod, Nat.zero_div, dot_zero v]; simp
theorem dot_one : ∀ (v : List Int) (e : Nat), dotN (64 ^ e) v = v.getD e 0
 | [], _ => by simp [dotN]
 | x :: v, 0 => by
  have := dot_zero v
  simp [dotN, this]
 | x :: v, e + 1 => by
  rw [dotN, Nat.pow_succ, Nat.mul_mod_left, Nat.mul_div_cancel _ (by decide), dot_one v e]; simp
noncomputable def mrgA (x : Nat) (f : List Nat → List Nat) (a l : List Nat) : List Nat :=
 @List.rec Nat (fun _ => List Nat) (x :: a) (fun y b ih => bif Nat.blt x y then x :: f (y :: b) else bif Nat.beq x y then x :: f b else y :: ih) l
noncomputable def mrgT (l : List Nat) : List Nat → List Nat := @List.rec Nat (fun _ => List Nat → List Nat) (fun b => b) (fun x a ih => mrgA x ih a) l
theorem mem_mrgA {x : Nat} {f : List Nat → List Nat} {a : List Nat} (hf : ∀ b c, c ∈ f b ↔ c ∈ a ∨ c ∈ b) (c : Nat) : ∀ l : List Nat, c ∈ mrgA x f a l ↔ c ∈ x :: a ∨ c ∈ l
 | [] => by show c ∈ x :: a ↔ _; simp
 | y :: b => by
  show c ∈ (bif Nat.blt x y then x :: f (y :: b) else bif Nat.beq x y then x :: f b else y :: mrgA x f a b) ↔ _
  cases h1 : Nat.blt x y
  ·
   cases h2 : Nat.beq x y
   ·
    simp only [cond_false, List.mem_cons, mem_mrgA hf c b]
    constructor
    ·
     rintro (h | (h | h) | h)
     ·
      exact .inr (.inl h)
     ·
      exact .inl (.inl h)
     ·
      exact .inl (.inr h)
     ·
      exact .inr (.inr h)
    ·
     rintro ((h | h) | (h | h))
     ·
      exact .inr (.inl (.inl h))
     ·
      exact .inr (.inl (.inr h))
     ·
      exact .inl h
     ·
      exact .inr (.inr h)
   ·
    have e := Nat.eq_of_beq_eq_true h2
    subst e
    simp only [cond_false, cond_true, List.mem_cons, hf]
    constructor
    ·
     rintro (h | h | h)
     ·
      exact .inl (.inl h)
     ·
      exact .inl (.inr h)
     ·
      exact .inr (.inr h)
    ·
     rintro ((h | h) | (h | h))
     ·
      exact .inl h
     ·
      exact .inr (.inl h)
     ·
      exact .inl h
     ·
      exact .inr (.inr h)
  ·
   simp only [cond_true, List.mem_cons, hf]
   constructor
   ·
    rintro (h | h | h | h)
    ·
     exact .inl (.inl h)
    ·
     exact .inl (.inr h)
    ·
     exact .inr (.inl h)
    ·
     exact .inr (.inr h)
   ·
    rintro ((h | h) | (h | h))
    ·
     exact .inl h
    ·
     exact .inr (.inl h)
    ·
     exact .inr (.inr (.inl h))
    ·
     exact .inr (.inr (.inr h))
theorem mem_mrgT : ∀ (a b : List Nat) (c : Nat), c ∈ mrgT a b ↔ c ∈ a ∨ c ∈ b
 | [], b, c => by show c ∈ b ↔ _; simp
 | x :: a, b, c => mem_mrgA (fun b c => mem_mrgT a b c) c b
noncomputable def mulT (k : Nat) (P Q : List Nat) : Option (List Nat) := bif P.all (lowc k) && Q.all (lowc k) then some (P.foldr (fun c o => mrgT (Q.map fun d => c + d) o) []) else none
theorem mem_mulT (Q : List Nat) (z : Nat) : ∀ P : List Nat, z ∈ P.foldr (fun c o => mrgT (Q.map fun d => c + d) o) [] ↔ ∃ c ∈ P, ∃ d ∈ Q, c + d = z
 | [] => by simp
 | x :: P => by
  rw [List.foldr_cons, mem_mrgT, mem_mulT Q z P, List.mem_map]
  constructor
  ·
   rintro (⟨d, h1, h2⟩ | ⟨c, h1, h2⟩)
   ·
    exact ⟨x, List.mem_cons_self, d, h1, h2⟩
   ·
    exact ⟨c, List.mem_cons_of_mem _ h1, h2⟩
  ·
   rintro ⟨c, h1, d, h2, h3⟩
   rcases List.mem_cons.mp h1 with rfl | h1
   ·
    exact .inl ⟨d, h2, h3⟩
   ·
    exact .inr ⟨c, h1, d, h2, h3⟩
structure Mx (P : List Nat) (v : List Int) (z : Int) : Prop where
 le : ∀ c ∈ P, dotN c v ≤ z
 at_ : ∃ c ∈ P, dotN c v = z
theorem Mx.mul {v : List Int} {P Q R : List Nat} {p q : Int} (h : mulT v.length P Q = some R) (hP : Mx P v p) (hQ : Mx Q v q) : Mx R v (p + q) := by
 unfold mulT at h
 cases h1 : (P.all (lowc v.length) && Q.all (lowc v.length)) with
 | false => rw [h1] at h; cases h
 | true =>
  rw [h1, cond_true] at h
  injection h with h
  rw [Bool.and_eq_true, List.all_eq_true, List.all_eq_true] at h1
  subst h
  refine ⟨fun z hz => ?_, ?_⟩
  ·
   obtain ⟨c, hc, d, hd, rfl⟩ := (mem_mulT Q z P).mp hz
   rw [dot_add v c d (h1.1 c hc) (h1.2 d hd)]
   have := hP.le c hc
   have := hQ.le d hd
   omega
  ·
   obtain ⟨c, hc, e1⟩ := hP.at_
   obtain ⟨d, hd, e2⟩ := hQ.at_
   exact ⟨c + d, (mem_mulT Q _ P).mpr ⟨c, hc, d, hd, rfl⟩, by rw [dot_add v c d (h1.1 c hc) (h1.2 d hd), e1, e2]⟩
theorem Mx.uniq {v : List Int} {P : List Nat} {p q : Int} (h1 : Mx P v p) (h2 : Mx P v q) : p = q := by
 obtain ⟨c, hc, e⟩ := h1.at_
 obtain ⟨d, hd, f⟩ := h2.at_
 have := h1.le d hd
 have := h2.le c hc
 omega
theorem Mx.mrg {v : List Int} {P Q : List Nat} {p q : Int} (h1 : Mx P v p) (h2 : Mx Q v q) : Mx (mrgT P Q) v (max p q) := by
 refine ⟨fun c hc => ?_, ?_⟩
 ·
  rcases (mem_mrgT _ _ _).mp hc with h | h
  ·
   have := h1.le c h; omega
  ·
   have := h2.le c h; omega
 ·
  by_cases hpq : q ≤ p
  ·
   obtain ⟨c, hc, e⟩ := h1.at_
   exact ⟨c, (mem_mrgT _ _ _).mpr (.inl hc), by omega⟩
  ·
   obtain ⟨c, hc, e⟩ := h2.at_
   exact ⟨c, (mem_mrgT _ _ _).mpr (.inr hc), by omega⟩
theorem mx_ex (v : List Int) : ∀ (P : List Nat), P ≠ [] → ∃ z, Mx P v z
 | [], h => absurd rfl h
 | [c], _ => ⟨dotN c v, fun d hd => by rw [List.mem_singleton.mp hd]; exact Int.le_refl _, c, List.mem_singleton.mpr rfl, rfl⟩
 | c :: d :: P, _ => by
  obtain ⟨z, hz⟩ := mx_ex v (d :: P) (by simp)
  refine ⟨max (dotN c v) z, fun x hx => ?_, ?_⟩
  ·
   rcases List.mem_cons.mp hx with rfl | hx
   ·
    omega
   ·
    have := hz.le x hx; omega
  ·
   obtain ⟨x, hx, e⟩ := hz.at_
   by_cases hc : z ≤ dotN c v
   ·
    exact ⟨c, List.mem_cons_self, by omega⟩
   ·
    exact ⟨x, List.mem_cons_of_mem _ hx, by omega⟩
def eqT : List Nat → List Nat → Bool
 | [], [] => true
 | x :: a, y :: b => Nat.beq x y && eqT a b
 | _, _ => false
theorem eqT_eq : ∀ {a b : List Nat}, eqT a b = true → a = b
 | [], [], _ => rfl
 | x :: a, y :: b, h => by
  rw [eqT, Bool.and_eq_true] at h
  rw [Nat.eq_of_beq_eq_true h.1, eqT_eq h.2]
 | [], _ :: _, h => by simp [eqT] at h
 | _ :: _, [], h => by simp [eqT] at h
def Vl (v : List Int) (f : List Nat × List Nat) (z : Int) : Prop := ∃ p q, Mx f.1 v p ∧ Mx f.2 v q ∧ z = p - q
theorem Vl.uniq {v : List Int} {f : List Nat × List Nat} {y z : Int} (h1 : Vl v f y) (h2 : Vl v f z) : y = z := by
 obtain ⟨p, q, a, b, rfl⟩ := h1
 obtain ⟨p2, q2, a2, b2, rfl⟩ := h2
 rw [a.uniq a2, b.uniq b2]
abbrev StT := List (List Nat × List Nat)
def getT (s : StT) (e : Nat) : List Nat × List Nat := s.getD e ([], [])
noncomputable def lowT (k : Nat) (s : StT) : List Nat → Option (List Nat × List Nat)
 | [] => some ([0], [0])
 | [j] => some (getT s j)
 | i :: j :: _ => (mulT k (getT s i).1 (getT s j).2).bind fun a => (mulT k (getT s j).1 (getT s i).2).bind fun b => (mulT k (getT s i).2 (getT s j).2).bind fun d => some (mrgT a b, d)
noncomputable def highT (k : Nat) (m : Nat) (s : StT) : List Nat → Option (List Nat × List Nat)
 | [] => some ([m], [0])
 | [j] => some (getT s j)
 | i :: j :: _ => (mulT k (getT s i).1 (getT s j).2).bind fun a => (mulT k (getT s j).1 (getT s i).2).bind fun b => (mulT k (getT s i).1 (getT s j).1).bind fun d => some (d, mrgT a b)
noncomputable def prodT (k : Nat) (A B C D : List Nat) : Option (List Nat) := (mulT k A B).bind fun x => (mulT k C x).bind fun y => mulT k D y
theorem Mx.prod {v : List Int} {A B C D R : List Nat} {a b c d : Int} (h : prodT v.length A B C D = some R) (hA : Mx A v a) (hB : Mx B v b) (hC : Mx C v c) (hD : Mx D v d) : Mx R v (a + b + c + d) := by
 unfold prodT at h
 obtain ⟨x, h1, h⟩ := Option.bind_eq_some_iff.mp h
 obtain ⟨y, h2, h⟩ := Option.bind_eq_some_iff.mp h
 have := Mx.mul h hD (Mx.mul h2 hC (Mx.mul h1 hA hB))
 rw [show a + b + c + d = d + (c + (a + b)) by omega]
 exact this
noncomputable def stepT (k m : Nat) (s : StT) (lo up : List Nat) (e : Nat) (f : List Nat × List Nat) : Bool :=
 match (lowT k s lo).bind fun L => (highT k m s up).bind fun U => (prodT k f.1 L.2 U.2 (getT s e).1).bind fun x => (prodT k f.2 L.1 U.1 (getT s e).2).bind fun y => some (eqT x y) with
 | some b => b && !f.1.isEmpty && !f.2.isEmpty
 | none => false
theorem step_vl {v : List Int} {m : Nat} {s : StT} {lo up : List Nat} {e : Nat} {f L U : List Nat × List Nat} {l u x : Int} (hL : lowT v.length s lo = some L) (hU : highT v.length m s up = some U) (h : stepT v.length m s lo up e f = true) (h1 : Vl v L l) (h2 : Vl v U u) (h3 : Vl v (getT s e) x) : Vl v f (l + u - x) := by
 unfold stepT at h
 rw [hL, Option.bind_some, hU, Option.bind_some] at h
 split at h
 ·
  rename_i b hb
  obtain ⟨y, hy, hb⟩ := Option.bind_eq_some_iff.mp hb
  obtain ⟨z, hz, hb⟩ := Option.bind_eq_some_iff.mp hb
  injection hb with hb
  rw [Bool.and_eq_true, Bool.and_eq_true] at h
  have e := eqT_eq (hb.trans h.1.1)
  subst e
  obtain ⟨p, hp⟩ := mx_ex v f.1 (by intro c; rw [c] at h; simp at h)
  obtain ⟨q, hq⟩ := mx_ex v f.2 (by intro c; rw [c] at h; simp at h)
  obtain ⟨a1, b1, c1, d1, rfl⟩ := h1
  obtain ⟨a2, b2, c2, d2, rfl⟩ := h2
  obtain ⟨a3, b3, c3, d3, rfl⟩ := h3
  have := (Mx.prod hy hp d1 d2 c3).uniq (Mx.prod hz hq c1 c2 d3)
  exact ⟨p, q, hp, hq, by omega⟩
 ·
  cases h
theorem low_vl {v : List Int} {s : StT} {y : List Nat} (H : ∀ e, e < y.length → Vl v (getT s e) ((y.getD e 0 : Nat) : Int)) : ∀ (lo : List Nat), lo.length ≤ 2 → (∀ j ∈ lo, j < y.length) → ∀ {L}, lowT v.length s lo = some L → Vl v L ((lo.foldr (fun j o => max (y.getD j 0) o) 0 : Nat) : Int)
 | [], _, _, L, h => by
  injection h with h; subst h
  have : Mx [0] v 0 := ⟨fun c hc => by rw [List.mem_singleton.mp hc, dot_zero]; exact Int.le_refl _, 0, List.mem_singleton.mpr rfl, dot_zero v⟩
  exact ⟨0, 0, this, this, rfl⟩
 | [j], _, hj, L, h => by
  injection h with h; subst h
  rw [List.foldr_cons, List.foldr_nil, Nat.max_zero]
  exact H j (hj j (by simp))
 | [i, j], _, hj, L, h => by
  unfold lowT at h
  obtain ⟨a, h1, h⟩ := Option.bind_eq_some_iff.mp h
  obtain ⟨b, h2, h⟩ := Option.bind_eq_some_iff.mp h
  obtain ⟨d, h3, h⟩ := Option.bind_eq_some_iff.mp h
  injection h with h; subst h
  obtain ⟨p, q, x1, x2, e1⟩ := H i (hj i (by simp))
  obtain ⟨p2, q2, z1, z2, e2⟩ := H j (hj j (by simp))
  refine ⟨_, _, (Mx.mul h1 x1 z2).mrg (Mx.mul h2 z1 x2), Mx.mul h3 x2 z2, ?_⟩
  rw [List.foldr_cons, List.foldr_cons, List.foldr_nil, Nat.max_zero]
  omega
 | _ :: _ :: _ :: _, h, _, _, _ => by simp at h
theorem high_vl {v : List Int} {s : StT} {y : List Nat} {b m : Nat} (hm : dotN m v = (b : Int)) (hb : ∀ e, y.getD e 0 ≤ b) (H : ∀ e, e < y.length → Vl v (getT s e) ((y.getD e 0 : Nat) : Int)) : ∀ (up : List Nat), up.length ≤ 2 → (∀ j ∈ up, j < y.length) → ∀ {U}, highT v.length m s up = some U → Vl v U ((up.foldr (fun j o => min (y.getD j 0) o) b : Nat) : Int)
 | [], _, _, L, h => by
  injection h with h; subst h
  have : Mx [0] v 0 := ⟨fun c hc => by rw [List.mem_singleton.mp hc, dot_zero]; exact Int.le_refl _, 0, List.mem_singleton.mpr rfl, dot_zero v⟩
  exact ⟨b, 0, ⟨fun c hc => by rw [List.mem_singleton.mp hc, hm]; exact Int.le_refl _, m, List.mem_singleton.mpr rfl, hm⟩, this, by rw [List.foldr_nil]; omega⟩
 | [j], _, hj, L, h => by
  injection h with h; subst h
  rw [List.foldr_cons, List.foldr_nil, Nat.min_eq_left (hb j)]
  exact H j (hj j (by simp))
 | [i, j], _, hj, L, h => by
  unfold highT at h
  obtain ⟨a, h1, h⟩ := Option.bind_eq_some_iff.mp h
  obtain ⟨c, h2, h⟩ := Option.bind_eq_some_iff.mp h
  obtain ⟨d, h3, h⟩ := Option.bind_eq_some_iff.mp h
  injection h with h; subst h
  obtain ⟨p, q, x1, x2, e1⟩ := H i (hj i (by simp))
  obtain ⟨p2, q2, z1, z2, e2⟩ := H j (hj j (by simp))
  refine ⟨_, _, Mx.mul h3 x1 z1, (Mx.mul h1 x1 z2).mrg (Mx.mul h2 z1 x2), ?_⟩
  rw [List.foldr_cons, List.foldr_cons, List.foldr_nil, Nat.min_eq_left (hb j)]
  omega
 | _ :: _ :: _ :: _, h, _, _, _ => by simp at h
def covOk (p : List Nat) (e : Nat) (lo up : List Nat) : Bool :=
 decide (lo.length ≤ 2) && decide (up.length ≤ 2) && (lo.all fun j => decide (j < p.length) && (less p e).testBit j) && (up.all fun i => decide (i < p.length) && (less p i).testBit e) &&
 ((List.range p.length).all fun j => !((less p e).testBit j) || lo.any fun c => j == c || (less p c).testBit j) &&
 ((List.range p.length).all fun i => !((less p i).testBit e) || up.any fun c => i == c || (less p i).testBit c)
theorem foldr_max (f : Nat → Nat) (m : Nat) : ∀ l : List Nat, l.foldr (fun j o => max (f j) o) 0 ≤ m ↔ ∀ j ∈ l, f j ≤ m
 | [] => by simp
 | a :: l => by
  rw [List.foldr_cons, Nat.max_le, foldr_max f m l]; simp
theorem foldr_min (f : Nat → Nat) (m b : Nat) : ∀ l : List Nat, m ≤ l.foldr (fun j o => min (f j) o) b ↔ m ≤ b ∧ ∀ j ∈ l, m ≤ f j
 | [] => by simp
 | a :: l => by
  rw [List.foldr_cons, Nat.le_min, foldr_min f m b l]; simp
  constructor
  ·
   rintro ⟨h1, h2, h3⟩; exact ⟨h2, h1, h3⟩
  ·
   rintro ⟨h1, h2, h3⟩; exact ⟨h2, h1, h3⟩
theorem cov_low {p y lo up : List Nat} {b e : Nat} (g : Good p) (a : Arr p y b) (h : covOk p e lo up = true) : lowN p y e = lo.foldr (fun j o => max (y.getD j 0) o) 0 := by
 simp only [covOk, Bool.and_eq_true, decide_eq_true_eq, List.all_eq_true, List.mem_range, Bool.or_eq_true, Bool.not_eq_true', List.any_eq_true, beq_iff_eq] at h
 obtain ⟨⟨⟨⟨⟨_, _⟩, h1⟩, _⟩, h2⟩, _⟩ := h
 apply Nat.le_antisymm
 ·
  refine (lowN_le g).mpr fun j hj => ?_
  rcases h2 j (by have := g.bit hj; omega) with h3 | ⟨c, hc, h3⟩
  ·
   rw [hj] at h3; cases h3
  ·
   have h4 := (foldr_max (fun j => y.getD j 0) _ lo).mp (Nat.le_refl _) c hc
   rcases h3 with rfl | h3
   ·
    exact h4
   ·
    exact Nat.le_trans (a.up c j h3) h4
 ·
  exact (foldr_max (fun j => y.getD j 0) _ lo).mpr fun j hj => (lowN_le g).mp (Nat.le_refl _) j (h1 j hj).2
theorem cov_high {p y lo up : List Nat} {b e : Nat} (g : Good p) (a : Arr p y b) (h : covOk p e lo up = true) : highN p y b e = up.foldr (fun j o => min (y.getD j 0) o) b := by
 simp only [covOk, Bool.and_eq_true, decide_eq_true_eq, List.all_eq_true, List.mem_range, Bool.or_eq_true, Bool.not_eq_true', List.any_eq_true, beq_iff_eq] at h
 obtain ⟨⟨⟨⟨⟨_, _⟩, _⟩, h1⟩, _⟩, h2⟩ := h
 apply Nat.le_antisymm
 ·
  exact (foldr_min (fun j => y.getD j 0) _ b up).mpr ⟨((le_highN g).mp (Nat.le_refl _)).1, fun j hj => ((le_highN g).mp (Nat.le_refl _)).2 j (h1 j hj).2⟩
 ·
  have h4 := (foldr_min (fun j => y.getD j 0) _ b up).mp (Nat.le_refl _)
  refine (le_highN g).mpr ⟨h4.1, fun i hi => ?_⟩
  rcases h2 i (by have := g.bit hi; omega) with h3 | ⟨c, hc, h3⟩
  ·
   rw [hi] at h3; cases h3
  ·
   have h5 := h4.2 c hc
   rcases h3 with rfl | h3
   ·
    exact h5
   ·
    exact Nat.le_trans h5 (a.up i c h3)
noncomputable def runT (p : List Nat) (cov : List (List Nat × List Nat)) (k m : Nat) : List Nat → StT → StT → Option StT
 | [], _, s => some s
 | _ :: _, [], _ => none
 | e :: es, f :: fs, s => bif covOk p e (cov.getD e ([], [])).1 (cov.getD e ([], [])).2 && (lowT k s (cov.getD e ([], [])).1).isSome && (highT k m s (cov.getD e ([], [])).2).isSome && stepT k m s (cov.getD e ([], [])).1 (cov.getD e ([], [])).2 e f && decide (e < s.length) then runT p cov k m es fs (s.set e f) else none
theorem run_vl {v : List Int} {p : List Nat} {b m : Nat} {cov : List (List Nat × List Nat)} (g : Good p) (hm : dotN m v = (b : Int)) : ∀ (es : List Nat) (fs s t : StT) (y : List Nat), Arr p y b → s.length = p.length → (∀ e, e < y.length → Vl v (getT s e) ((y.getD e 0 : Nat) : Int)) → runT p cov v.length m es fs s = some t →
  ∀ e, e < y.length → Vl v (getT t e) (((es.foldl (tgN p b) y).getD e 0 : Nat) : Int)
 | [], fs, s, t, y, a, hs, H, h => by injection h with h; subst h; exact H
 | _ :: _, [], s, t, y, a, hs, H, h => by cases h
 | e :: es, f :: fs, s, t, y, a, hs, H, h => by
  rw [runT] at h
  cases hc : (covOk p e (cov.getD e ([], [])).1 (cov.getD e ([], [])).2 && (lowT v.length s (cov.getD e ([], [])).1).isSome && (highT v.length m s (cov.getD e ([], [])).2).isSome && stepT v.length m s (cov.getD e ([], [])).1 (cov.getD e ([], [])).2 e f && decide (e < s.length)) with
  | false => rw [hc] at h; cases h
  | true =>
   rw [hc, cond_true] at h
   simp only [Bool.and_eq_true, decide_eq_true_eq] at hc
   obtain ⟨⟨⟨⟨c1, c2⟩, c3⟩, c4⟩, c5⟩ := hc
   obtain ⟨L, hL⟩ := Option.isSome_iff_exists.mp c2
   obtain ⟨U, hU⟩ := Option.isSome_iff_exists.mp c3
   have cc := c1
   simp only [covOk, Bool.and_eq_true, decide_eq_true_eq, List.all_eq_true] at cc
   have hl := a.len
   have e1 := cov_low g a c1
   have e2 := cov_high g a c1
   have v1 := low_vl H _ cc.1.1.1.1.1 (fun j hj => by have := (cc.1.1.1.2 j hj).1; omega) hL
   have v2 := high_vl hm a.hi H _ cc.1.1.1.1.2 (fun j hj => by have := (cc.1.1.2 j hj).1; omega) hU
   rw [← e1] at v1
   rw [← e2] at v2
   have v3 := step_vl hL hU c4 v1 v2 (H e (by omega))
   have k1 := low_le g a e
   have k2 := le_high g a e
   have v4 : Vl v f (((lowN p y e + highN p y b e - y.getD e 0 : Nat)) : Int) := by
    rw [show (((lowN p y e + highN p y b e - y.getD e 0 : Nat)) : Int) = ((lowN p y e : Nat) : Int) + ((highN p y b e : Nat) : Int) - ((y.getD e 0 : Nat) : Int) by omega]
    exact v3
   have := run_vl g hm es fs (s.set e f) t (tgN p b y e) (a.tg g e) (by rw [List.length_set]; exact hs) (fun i hi => by
    rw [tgN_len] at hi
    rw [tgN_get]
    unfold getT
    rw [List.getD_eq_getElem?_getD, List.getElem?_set]
    by_cases ci : e = i
    ·
     subst ci
     rw [if_pos rfl, if_pos (by omega), if_pos ⟨rfl, hi⟩]
     exact v4
    ·
     rw [if_neg ci, if_neg (fun q => ci q.1.symm), ← List.getD_eq_getElem?_getD]
     exact H i hi) h
   intro i hi
   exact this i (by rw [tgN_len]; exact hi)
def initT (n : Nat) : StT := (List.range n).map fun e => ([64 ^ e], [0])
noncomputable def perT (p : List Nat) (cov : List (List Nat × List Nat)) (N : Nat) (fs : StT) : Bool :=
 match runT p cov (p.length + 1) (64 ^ p.length) (List.replicate N (List.range p.length).reverse).flatten fs (initT p.length) with
 | some t => (List.range p.length).all fun e => eqT (getT t e).1 [64 ^ e] && eqT (getT t e).2 [0]
 | none => false
theorem iter_fold {p : List Nat} {b : Nat} : ∀ (n : Nat) (y : List Nat), iter (rowN p b) n y = (List.replicate n (List.range p.length).reverse).flatten.foldl (tgN p b) y
 | 0, _ => rfl
 | n + 1, y => by rw [iter, iter_fold n, List.replicate_succ, List.flatten_cons, List.foldl_append]; rfl
theorem perT_row {p : List Nat} {b N : Nat} {cov : List (List Nat × List Nat)} {fs : StT} (h : perT p cov N fs = true) (g : Good p) {y : List Nat} (a : Arr p y b) : iter (rowN p b) N y = y := by
 unfold perT at h
 have hl := a.len
 split at h
 ·
  rename_i t ht
  rw [iter_fold]
  have hv : (toI y ++ [(b : Int)]).length = p.length + 1 := by rw [List.length_append, toI_len, hl]; rfl
  rw [← hv] at ht
  have hg : ∀ e, e < p.length → getT (initT p.length) e = ([64 ^ e], [0]) := fun e he => by
   unfold getT initT
   rw [List.getD_eq_getElem?_getD, List.getElem?_map, List.getElem?_range he]; rfl
  have m0 : Mx [0] (toI y ++ [(b : Int)]) 0 := ⟨fun c hc => by rw [List.mem_singleton.mp hc, dot_zero]; exact Int.le_refl _, 0, List.mem_singleton.mpr rfl, dot_zero _⟩
  have hi : ∀ e, e < p.length → Vl (toI y ++ [(b : Int)]) ([64 ^ e], [0]) ((y.getD e 0 : Nat) : Int) := fun e he => by
   have e1 : dotN (64 ^ e) (toI y ++ [(b : Int)]) = ((y.getD e 0 : Nat) : Int) := by
    rw [dot_one, List.getD_eq_getElem?_getD, List.getElem?_append_left (by rw [toI_len]; omega), ← List.getD_eq_getElem?_getD, toI_getD]
   exact ⟨_, 0, ⟨fun c hc => by rw [List.mem_singleton.mp hc]; exact Int.le_refl _, _, List.mem_singleton.mpr rfl, rfl⟩, m0, by rw [e1]; omega⟩
  have hm : dotN (64 ^ p.length) (toI y ++ [(b : Int)]) = (b : Int) := by
   rw [dot_one, List.getD_eq_getElem?_getD, List.getElem?_append_right (by rw [toI_len]; omega), toI_len, hl, Nat.sub_self]; rfl
  have H := run_vl g hm _ fs _ t y a (by simp [initT]) (fun e he => by rw [hg e (by omega)]; exact hi e (by omega)) ht
  refine List.ext_getElem (fold_len p b _ y) fun i h1 h2 => ?_
  have v1 := H i h2
  rw [List.all_eq_true] at h
  have h3 := h i (by rw [List.mem_range]; omega)
  rw [Bool.and_eq_true] at h3
  have e2 : getT t i = ([64 ^ i], [0]) := Prod.ext (eqT_eq h3.1) (eqT_eq h3.2)
  rw [e2] at v1
  have e3 := v1.uniq (hi i (by omega))
  rw [List.getD_eq_getElem?_getD, List.getElem?_eq_getElem h1, Option.getD_some, List.getD_eq_getElem?_getD, List.getElem?_eq_getElem h2, Option.getD_some] at e3
  omega
 ·
  cases h
end Go.Proofs.Ytkgngggppcmpfaa.M
end
