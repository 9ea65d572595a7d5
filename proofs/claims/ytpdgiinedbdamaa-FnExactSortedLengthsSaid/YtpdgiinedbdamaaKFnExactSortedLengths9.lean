/- Laws about the given program: the law FnExactSortedLengths answers true for every input that its row lets in; no condition is added to the given statement. Contracts of the Go functions that it reaches, and the plain proof over lists. -/
import Derived.Test.YtpdgiinedbdamaaWFnExactSortedLengths0
import Derived.Test.YtpdgiinedbdamaaKFnExactSortedLengths0
import Derived.Test.YtpdgiinedbdamaaKFnExactSortedLengths1
import Derived.Test.YtpdgiinedbdamaaKFnExactSortedLengths2
import Derived.Test.YtpdgiinedbdamaaKFnExactSortedLengths3
import Derived.Test.YtpdgiinedbdamaaKFnExactSortedLengths4
import Derived.Test.YtpdgiinedbdamaaKFnExactSortedLengths5
import Derived.Test.YtpdgiinedbdamaaKFnExactSortedLengths6
import Derived.Test.YtpdgiinedbdamaaKFnExactSortedLengths7
import Derived.Test.YtpdgiinedbdamaaKFnExactSortedLengths8
section
namespace Go.Proofs.Ytpdgiinedbdamaa.M
set_option linter.unusedVariables false
open Go.RowKit Go.Proofs.YtpdgiinedbdamaaW.PrintWords Go.Proofs.YtpdgiinedbdamaaW.PrintLast Go.Proofs.YtpdgiinedbdamaaW.PrintMore
def toI (p : List Nat) : List Int := p.map fun (x : Nat) => (x : Int)
@[simp] theorem toI_len (p : List Nat) : (toI p).length = p.length := by simp [toI]
@[simp] theorem toI_nil : toI [] = [] := rfl
theorem toI_app (p q : List Nat) : toI (p ++ q) = toI p ++ toI q := by simp [toI]
theorem toI_one (x : Nat) : toI [x] = [(x : Int)] := rfl
theorem rd_toI (p : List Nat) (i : Nat) : rd (toI p) (i : Int) = ((p.getD i 0 : Nat) : Int) := by
 simp only [rd, toI, Int.toNat_natCast, List.getD_eq_getElem?_getD, List.getElem?_map]
 cases p[i]? <;> simp
def less (p : List Nat) (i : Nat) : Nat := p.getD i 0
theorem less_out {p : List Nat} {i : Nat} (h : p.length ≤ i) : less p i = 0 := by simp [less, List.getD_eq_getElem?_getD, h]
theorem rd_less (p : List Nat) (i : Nat) : rd (toI p) (i : Int) = ((less p i : Nat) : Int) := rd_toI p i
structure Good (p : List Nat) : Prop where
 pos : 1 ≤ p.length
 le : p.length ≤ 10
 lt : ∀ i, i < p.length → less p i < 2 ^ i
 tr : ∀ i, i < p.length → ∀ j, (less p i).testBit j = true → ∀ m, (less p j).testBit m = true → (less p i).testBit m = true
theorem Good.bit {p : List Nat} (g : Good p) {i j : Nat} (h : (less p i).testBit j = true) : j < i ∧ i < p.length := by
 have hi : i < p.length := by
  apply Nat.lt_of_not_le; intro h2; rw [less_out h2, Nat.zero_testBit] at h; cases h
 exact ⟨bit_lt (g.lt i hi) h, hi⟩
theorem Good.lt10 {p : List Nat} (g : Good p) (i : Nat) : less p i < 2 ^ p.length := by
 by_cases hi : i < p.length
 ·
  exact Nat.lt_of_lt_of_le (g.lt i hi) (Nat.pow_le_pow_right (by decide) (by omega))
 ·
  rw [less_out (by omega)]; exact Nat.two_pow_pos _
theorem Good.lt63 {p : List Nat} (g : Good p) (i : Nat) : less p i < 2 ^ 63 := M.lt63 (g.lt10 i) (by have := g.le; omega)
theorem Good.tr' {p : List Nat} (g : Good p) {i j m : Nat} (h1 : (less p i).testBit j = true) (h2 : (less p j).testBit m = true) : (less p i).testBit m = true := g.tr i (g.bit h1).2 j h1 m h2
def okAt (l : List Int) (i : Nat) : Bool := inB (l.getD i 0) 0 ((2 ^ i - 1 : Nat) : Int) && (List.range i).all fun j => !((l.getD i 0).toNat.testBit j) || sd (l.getD j 0).toNat (l.getD i 0).toNat == 0
theorem okAt_def (l : List Int) (i : Nat) : okAt l i = (inB (l.getD i 0) 0 ((2 ^ i - 1 : Nat) : Int) && (List.range i).all fun j => !((l.getD i 0).toNat.testBit j) || sd (l.getD j 0).toNat (l.getD i 0).toNat == 0) := rfl
def goodB (l : List Int) : Bool := inB (l.length : Int) 1 10 && (List.range' 0 l.length).all (okAt l)
theorem okAt_nat {l : List Int} {i : Nat} (h : okAt l i = true) : ∃ a : Nat, l.getD i 0 = (a : Int) ∧ a < 2 ^ i := by
 simp only [okAt, Bool.and_eq_true, inB_iff] at h
 have := Nat.two_pow_pos i
 exact ⟨(l.getD i 0).toNat, by omega, by omega⟩
theorem goodB_of {l : List Int} (h : goodB l = true) : ∃ p, l = toI p ∧ Good p := by
 simp only [goodB, Bool.and_eq_true, inB_iff, List.all_eq_true, List.mem_range'_1] at h
 obtain ⟨⟨h1, h2⟩, h3⟩ := h
 have hn : ∀ i, i < l.length → okAt l i = true := fun i hi => h3 i (by omega)
 have e : l = toI (l.map Int.toNat) := by
  apply List.ext_getElem (by simp)
  intro i hi1 hi2
  obtain ⟨a, ha, _⟩ := okAt_nat (hn i hi1)
  have hg : l.getD i 0 = l[i] := by simp [List.getD_eq_getElem?_getD, hi1]
  simp only [toI, List.getElem_map]; omega
 refine ⟨l.map Int.toNat, e, ?_⟩
 have hl : ∀ i, less (l.map Int.toNat) i = (l.getD i 0).toNat := by
  intro i
  simp only [less, List.getD_eq_getElem?_getD, List.getElem?_map]
  cases l[i]? <;> simp
 refine ⟨by simp; omega, by simp; omega, fun i hi => ?_, fun i hi j hj m hm => ?_⟩
 ·
  obtain ⟨a, ha, hb⟩ := okAt_nat (hn i (by simpa using hi))
  rw [hl, ha]; simpa using hb
 ·
  have hi' : i < l.length := by simpa using hi
  have ho := hn i hi'
  obtain ⟨a, ha, hb⟩ := okAt_nat ho
  simp only [okAt, Bool.and_eq_true, List.all_eq_true, List.mem_range, Bool.or_eq_true, Bool.not_eq_true', beq_iff_eq] at ho
  rw [hl] at hj hm ⊢
  have hji : j < i := by rw [ha] at hj; exact bit_lt hb (by simpa using hj)
  rcases ho.2 j hji with hz | hz
  ·
   rw [hj] at hz; cases hz
  ·
   exact sd_zero.mp hz m hm
def items (m : Nat) : List Nat := (List.range 10).filter fun e => m.testBit e
theorem mem_items {m e : Nat} : e ∈ items m ↔ e < 10 ∧ m.testBit e = true := by simp [items]
theorem items_len (m : Nat) : (items m).length ≤ 10 := by
 have := List.length_filter_le (fun e => m.testBit e) (List.range 10)
 simpa [items] using this
def foldBits {α : Type} (n s : Nat) (f : α → Nat → α) (a : α) : α := (List.range n).foldl (fun a e => if s.testBit e = true then f a e else a) a
theorem foldl_items {α : Type} (s : Nat) (f : α → Nat → α) (a : α) : (items s).foldl f a = foldBits 10 s f a := by
 unfold items foldBits; rw [List.foldl_filter]
theorem foldl_none {α : Type} (s : Nat) (f : α → Nat → α) : ∀ (l : List Nat) (a : α), (∀ e ∈ l, s.testBit e = false) → l.foldl (fun a e => if s.testBit e = true then f a e else a) a = a
 | [], _, _ => rfl
 | x :: l, a, h => by
  rw [List.foldl_cons, if_neg (by rw [h x List.mem_cons_self]; simp)]
  exact foldl_none s f l a fun e he => h e (List.mem_cons_of_mem _ he)
theorem foldBits_le {α : Type} {n m s : Nat} (f : α → Nat → α) (a : α) (h : s < 2 ^ n) (hm : n ≤ m) : foldBits m s f a = foldBits n s f a := by
 unfold foldBits
 obtain ⟨d, rfl⟩ := Nat.exists_eq_add_of_le hm
 rw [List.range_add, List.foldl_append]
 apply foldl_none
 intro e he
 simp only [List.mem_map, List.mem_range] at he
 obtain ⟨x, _, rfl⟩ := he
 exact Nat.testBit_lt_two_pow (Nat.lt_of_lt_of_le h (Nat.pow_le_pow_right (by decide) (by omega)))
theorem foldl_items_n {α : Type} {n s : Nat} (f : α → Nat → α) (a : α) (h : s < 2 ^ n) (hn : n ≤ 10) : (items s).foldl f a = foldBits n s f a := by
 rw [foldl_items, foldBits_le f a h hn]
theorem foldBits_succ {α : Type} (n s : Nat) (f : α → Nat → α) (a : α) : foldBits (n + 1) s f a = if s.testBit n = true then f (foldBits n s f a) n else foldBits n s f a := by
 unfold foldBits; rw [List.range_succ, List.foldl_append]; rfl
theorem foldBits_inv {α : Type} (n s : Nat) (f : α → Nat → α) (a : α) (I : α → Prop) (h0 : I a) (h : ∀ a e, I a → e < n → s.testBit e = true → I (f a e)) : I (foldBits n s f a) := by
 induction n with
 | zero => exact h0
 | succ n ih =>
  have ih := ih fun a e ha he hs => h a e ha (by omega) hs
  rw [foldBits_succ]
  split
  ·
   exact h _ _ ih (by omega) (by assumption)
  ·
   exact ih
def full (p : List Nat) : Nat := 2 ^ p.length - 1
theorem full_lt (p : List Nat) : full p < 2 ^ p.length := by have := Nat.two_pow_pos p.length; unfold full; omega
theorem full_bit (p : List Nat) (i : Nat) : (full p).testBit i = decide (i < p.length) := by unfold full; rw [Nat.testBit_two_pow_sub_one]
def close (p : List Nat) (s : Nat) : Nat := foldBits p.length s (fun o e => o ||| less p e) s
theorem close_lt {p : List Nat} (g : Good p) {s : Nat} (h : s < 2 ^ p.length) : close p s < 2 ^ p.length :=
 foldBits_inv _ _ _ _ (· < 2 ^ p.length) h (fun a e ha _ _ => Nat.or_lt_two_pow ha (g.lt10 e))
theorem foldOr_bit (p : List Nat) (s a i : Nat) : ∀ n, (foldBits n s (fun o e => o ||| less p e) a).testBit i = true ↔ (a.testBit i = true ∨ ∃ e, e < n ∧ s.testBit e = true ∧ (less p e).testBit i = true)
 | 0 => by simp [foldBits]
 | n + 1 => by
  rw [foldBits_succ]
  have ih := foldOr_bit p s a i n
  split
  ·
   rename_i hs
   rw [Nat.testBit_or, Bool.or_eq_true, ih]
   constructor
   ·
    rintro ((h | ⟨e, h1, h2, h3⟩) | h)
    ·
     exact .inl h
    ·
     exact .inr ⟨e, by omega, h2, h3⟩
    ·
     exact .inr ⟨n, by omega, hs, h⟩
   ·
    rintro (h | ⟨e, h1, h2, h3⟩)
    ·
     exact .inl (.inl h)
    ·
     by_cases he : e = n
     ·
      subst he; exact .inr h3
     ·
      exact .inl (.inr ⟨e, by omega, h2, h3⟩)
  ·
   rename_i hs
   rw [ih]
   constructor
   ·
    rintro (h | ⟨e, h1, h2, h3⟩)
    ·
     exact .inl h
    ·
     exact .inr ⟨e, by omega, h2, h3⟩
   ·
    rintro (h | ⟨e, h1, h2, h3⟩)
    ·
     exact .inl h
    ·
     by_cases he : e = n
     ·
      subst he; exact absurd h2 hs
     ·
      exact .inr ⟨e, by omega, h2, h3⟩
theorem close_bit {p : List Nat} {s i : Nat} (h : s < 2 ^ p.length) : (close p s).testBit i = true ↔ (s.testBit i = true ∨ ∃ e, s.testBit e = true ∧ (less p e).testBit i = true) := by
 unfold close; rw [foldOr_bit]
 constructor
 ·
  rintro (h1 | ⟨e, _, h1⟩)
  ·
   exact .inl h1
  ·
   exact .inr ⟨e, h1⟩
 ·
  rintro (h1 | ⟨e, h1⟩)
  ·
   exact .inl h1
  ·
   exact .inr ⟨e, bit_lt h h1.1, h1⟩
def IsId (p : List Nat) (s : Nat) : Prop := s < 2 ^ p.length ∧ ∀ e, s.testBit e = true → ∀ i, (less p e).testBit i = true → s.testBit i = true
def idealB (p : List Nat) (s : Nat) : Bool := (List.range' 0 p.length).all fun e => !(s.testBit e) || sd (less p e) s == 0
theorem idealB_iff {p : List Nat} {s : Nat} (h : s < 2 ^ p.length) : idealB p s = true ↔ IsId p s := by
 simp only [idealB, IsId, List.all_eq_true, List.mem_range'_1, Bool.or_eq_true, Bool.not_eq_true', beq_iff_eq, sd_zero]
 constructor
 ·
  intro h1
  refine ⟨h, fun e he => ?_⟩
  rcases h1 e ⟨by omega, by have := bit_lt h he; omega⟩ with h2 | h2
  ·
   rw [he] at h2; cases h2
  ·
   exact h2
 ·
  rintro ⟨_, h1⟩ e _
  cases he : s.testBit e
  ·
   exact .inl rfl
  ·
   exact .inr (h1 e he)
theorem close_eq_iff {p : List Nat} {s : Nat} (h : s < 2 ^ p.length) : close p s = s ↔ IsId p s := by
 constructor
 ·
  intro hc
  refine ⟨h, fun e he i hi => ?_⟩
  rw [← hc]; exact (close_bit h).mpr (.inr ⟨e, he, hi⟩)
 ·
  rintro ⟨_, hi⟩
  apply Nat.eq_of_testBit_eq
  intro i
  rw [Bool.eq_iff_iff, close_bit h]
  constructor
  ·
   rintro (h1 | ⟨e, h1, h2⟩)
   ·
    exact h1
   ·
    exact hi e h1 i h2
  ·
   exact .inl
end Go.Proofs.Ytpdgiinedbdamaa.M
end
section
namespace Go.Proofs.Ytpdgiinedbdamaa.L
open Go.RowKit Go.Proofs.YtpdgiinedbdamaaW.PrintWords Go.Proofs.YtpdgiinedbdamaaW.PrintLast Go.Proofs.YtpdgiinedbdamaaW.PrintMore
attribute [local go_sem] max2_int min2_int max_two min_two max_three min_three max_four min_four
set_option linter.unusedVariables false
set_option linter.unusedSimpArgs false
def spec_l1All.l0 : Nat → Int → Int → List Int → Int → Int → Option (Bool)
 | 0, _, _, _, _, _ => none
 | k + 1, x1, x2, x9, x10, x11 => if x11 < x10 then (if 0 ≤ x11 then (if x11 < (x9.length : Int) then ((spec_l1In.f (rd x9 x11) x1 x2).bind fun t341 => (if t341 = true then (spec_l1All.l0 k x1 x2 x9 x10 (wrap64 (x11 + 1))) else (some false))) else (none)) else (none)) else (some true)
def spec_l1All.f (k : Nat) (l0 : List Int) (a1 : Int) (a2 : Int) : Option (Bool) := spec_l1All.l0 k a1 a2 l0 (l0.length : Int) 0
theorem spec_l1All.mono_l : ∀ k, (∀ y0 y1 y2 y3 y4, LeO (spec_l1All.l0 k y0 y1 y2 y3 y4) (spec_l1All.l0 (k + 1) y0 y1 y2 y3 y4))
 | 0 => fun _ _ _ _ _ r h => by simp [spec_l1All.l0] at h
 | k + 1 => by
  have ih0 := spec_l1All.mono_l k
  ·
   intro y0 y1 y2 y3 y4
   unfold spec_l1All.l0
   repeat' first
   | (with_reducible exact ih0 _ _ _ _ _)
   | (with_reducible exact LeO.refl _)
   | (with_reducible exact LeO.none _)
   | (with_reducible refine LeO.ite ?_ ?_)
   | (with_reducible refine LeO.bind ?_ (fun _ => ?_))
   | exact ih0 _ _ _ _ _
   | exact LeO.none _
   | refine LeO.ite ?_ ?_
   | refine LeO.bind ?_ (fun _ => ?_)
theorem spec_l1All.mono : ∀ a0 a1 a2 k, LeO (spec_l1All.f k a0 a1 a2) (spec_l1All.f (k + 1) a0 a1 a2) := by
 intro a0 a1 a2 k
 have ih0 := spec_l1All.mono_l k
 unfold spec_l1All.f
 repeat' first
   | (with_reducible exact ih0 _ _ _ _ _)
   | (with_reducible exact LeO.refl _)
   | (with_reducible exact LeO.none _)
   | (with_reducible refine LeO.ite ?_ ?_)
   | (with_reducible refine LeO.bind ?_ (fun _ => ?_))
   | exact ih0 _ _ _ _ _
   | exact LeO.none _
   | refine LeO.ite ?_ ?_
   | refine LeO.bind ?_ (fun _ => ?_)
set_option maxHeartbeats 8000000 in
set_option maxRecDepth 100000 in
theorem spec_l1All.calls (k : Nat) (A0 : Option Addr) (c0 : Nat) (l0 : List Int) (a1 : Int) (a2 : Int) (r : Bool) (w : World) (hr0 : Kd.C (Kd.int .i64) w A0 l0.length l0) (hc0 : l0.length ≤ c0) (h : spec_l1All.f k l0 a1 a2 = some r) :
  Calls Try.prog 143 #[.slice A0 l0.length c0, .int .i64 a1, .int .i64 a2] w fun e w' => e = .returned (.bool r) ∧ Drawn0 w w' := by
 have HR0 := Aside0.mk hr0
 have HC0 := Aside0.mk hc0
 clear hr0 hc0
 have H : (spec_l1All.l0 k a1 a2 l0 (l0.length : Int) 0) = some r := h
 clear h
 have H' := Aside0.mk H
 clear H
 go_enter Try.func143, Try.ntmps143
 go_wp2
 go_loopg [11] k (fun kq v11 w' => ∃ (x11_1 : Int), v11 = .int .i64 x11_1 ∧ Aside0 (spec_l1All.l0 kq a1 a2 l0 (l0.length : Int) x11_1 = some r) ∧ Aside0 (kq ≤ k) ∧ Drawn0 w w')
 case atStart => exact ⟨(0), (by first | rfl | (simp; done) | (simp [*]; done)), H', ⟨Nat.le_refl _⟩, by repeat (first | exact Drawn0.refl _ | apply Drawn0.step)⟩
 case round =>
  clear H'
  try clear c1
  try clear p2
  obtain ⟨x11_1, rfl, HA, HK1, ⟨m1, rfl⟩⟩ := hrel
  cases gk with
  | zero => exact absurd HA.out (by simp [spec_l1All.l0])
  | succ k1 =>
   have H := HA.out
   clear HA
   simp only [spec_l1All.l0] at H
   by_cases c4 : x11_1 < (l0.length : Int)
   ·
    rw [if_pos c4] at H
    have c4b0 : decide (x11_1 < (l0.length : Int)) = true := decide_eq_true c4
    clear c4
    by_cases c5 : 0 ≤ x11_1
    ·
     rw [if_pos c5] at H
     have c5b0 : decide (0 ≤ x11_1) = true := decide_eq_true c5
     clear c5
     by_cases c6 : x11_1 < (l0.length : Int)
     ·
      rw [if_pos c6] at H
      have c6b0 : decide (x11_1 < (l0.length : Int)) = true := decide_eq_true c6
      clear c6
      replace H := Option.bind_eq_some_iff.mp H
      obtain ⟨t341, A70, H⟩ := H
      replace H : (if t341 = true then (spec_l1All.l0 k1 a1 a2 l0 (l0.length : Int) (wrap64 (x11_1 + 1))) else (some false)) = some r := H
      have A7 := Aside0.mk A70
      clear A70
      by_cases c8 : t341 = true
      ·
       subst c8
       have H1 : (spec_l1All.l0 k1 a1 a2 l0 (l0.length : Int) (wrap64 (x11_1 + 1))) = some r := by rw [if_pos rfl] at H; exact H
       clear H
       have H := H1
       clear H1
       have H' := Aside0.mk H
       clear H
       have p340 : 0 ≤ (x11_1 : Int) := of_decide_eq_true (by first | (with_reducible assumption) | assumption)
       have q340 : x11_1 < (l0.length : Int) := of_decide_eq_true (by first | (with_reducible assumption) | assumption)
       obtain ⟨ad340, e340, hx340_0⟩ := Kd.at_int HR0.out x11_1 p340 q340
       cases e340
       replace p340 := eq_true p340
       replace q340 := eq_true q340
       go_wp2_with (first | ((with_reducible refine gate_callee (f := 115) rfl ?_); refine goesL_ (some 18) rfl rfl Try.func115 (by kernel_rfl) rfl #[.int .i64 (rd l0 x11_1), .int .i64 a1, .int .i64 a2] rfl (by (try simp only [List.map_toArray, List.map_cons, List.map_nil]); first | done | rfl | (simp only [List.length_drop, List.length_take]; rfl)) ?_; (with_reducible refine (spec_l1In.calls (rd l0 x11_1) a1 a2 true _ A7.out).mono ?_); rintro e w' ⟨rfl, ⟨nd, rfl⟩⟩; refine ⟨_, rfl, ?_⟩))
       go_roundg k1
       case measure => have := HK1.out; omega
       case rel => exact ⟨(wrap64 (x11_1 + 1)), (by first | rfl | (simp; done) | (simp [*]; done)), H', ⟨by have := HK1.out; omega⟩, by repeat (first | exact Drawn0.refl _ | apply Drawn0.step)⟩
      ·
       replace c8 := Bool.eq_false_iff.mpr c8
       subst c8
       have H1 : (some false) = some r := by rw [if_neg (show ¬ (false = true) by decide)] at H; exact H
       clear H
       have H := H1
       clear H1
       obtain rfl := Option.some.inj H
       have p340 : 0 ≤ (x11_1 : Int) := of_decide_eq_true (by first | (with_reducible assumption) | assumption)
       have q340 : x11_1 < (l0.length : Int) := of_decide_eq_true (by first | (with_reducible assumption) | assumption)
       obtain ⟨ad340, e340, hx340_0⟩ := Kd.at_int HR0.out x11_1 p340 q340
       cases e340
       replace p340 := eq_true p340
       replace q340 := eq_true q340
       go_wp2_with (first | ((with_reducible refine gate_callee (f := 115) rfl ?_); refine goesL_ (some 18) rfl rfl Try.func115 (by kernel_rfl) rfl #[.int .i64 (rd l0 x11_1), .int .i64 a1, .int .i64 a2] rfl (by (try simp only [List.map_toArray, List.map_cons, List.map_nil]); first | done | rfl | (simp only [List.length_drop, List.length_take]; rfl)) ?_; (with_reducible refine (spec_l1In.calls (rd l0 x11_1) a1 a2 false _ A7.out).mono ?_); rintro e w' ⟨rfl, ⟨nd, rfl⟩⟩; refine ⟨_, rfl, ?_⟩))
       go_ret
       exact ⟨by first | rfl | (simp; done) | (simp [*]; done), by repeat (first | exact Drawn0.refl _ | apply Drawn0.step)⟩
     ·
      rw [if_neg c6] at H
      exact absurd H (by simp)
    ·
     rw [if_neg c5] at H
     exact absurd H (by simp)
   ·
    rw [if_neg c4] at H
    have c4b0 : decide (x11_1 < (l0.length : Int)) = false := decide_eq_false c4
    clear c4
    obtain rfl := Option.some.inj H
    go_wp2
    go_ret
    exact ⟨by first | rfl | (simp; done) | (simp [*]; done), by repeat (first | exact Drawn0.refl _ | apply Drawn0.step)⟩
end Go.Proofs.Ytpdgiinedbdamaa.L
end
section
namespace Go.Proofs.Ytpdgiinedbdamaa.M
open Go.RowKit Go.Proofs.YtpdgiinedbdamaaW.PrintWords Go.Proofs.YtpdgiinedbdamaaW.PrintLast Go.Proofs.YtpdgiinedbdamaaW.PrintMore Go.Proofs.Ytpdgiinedbdamaa.L
theorem toIntS_l0 (l : List Int) (hl : l.length ≤ 35184372088832) : ∀ (d i : Nat) (acc : List Int), i + d = l.length → acc.length = l.length → Ev (fun k => laws_toIntS.l0 k l acc i) (acc.take i ++ l.drop i)
 | 0, i, acc, h, ha => by
  have h1 : ¬ ((i : Int) < (l.length : Int)) := by omega
  refine Ev.step (fun _ => rfl) (ev_neg h1 ?_)
  rw [List.take_of_length_le (by omega), List.drop_of_length_le (by omega), List.append_nil]
  exact Ev.now _
 | d + 1, i, acc, h, ha => by
  have h1 : (i : Int) < (l.length : Int) := by omega
  refine Ev.step (fun _ => rfl) (ev_pos h1 (ev_pos (by omega) (ev_pos (by omega) ?_)))
  rw [wrap_succ (by omega), rd_get (by omega : i < l.length), Int.toNat_natCast]
  have ih := toIntS_l0 l hl d (i + 1) (acc.set i l[i]) (by omega) (by simp [ha])
  have e : (acc.set i l[i]).take (i + 1) ++ l.drop (i + 1) = acc.take i ++ l.drop i := by
   rw [List.take_succ_eq_append_getElem (by simp; omega), List.getElem_set_self, List.drop_eq_getElem_cons (by omega : i < l.length)]
   simp [List.take_set_of_le]
  rw [← e]; exact ih
theorem toIntS_ev (l : List Int) (hl : l.length ≤ 35184372088832) : Ev (fun k => laws_toIntS.f k l) l := by
 have h := toIntS_l0 l hl l.length 0 (List.replicate l.length 0) (by omega) (by simp)
 exact ev_pos (by omega) (ev_pos (by simpa using hl) (by simpa using h))
theorem eqIntS_l0 (a b : List Int) (hl : a.length ≤ 9223372036854775806) (hab : a.length = b.length) : ∀ (d i : Nat), i + d = a.length → Ev (fun k => laws_eqIntS.l0 k a b i) (decide (a.drop i = b.drop i))
 | 0, i, h => by
  have h1 : ¬ ((i : Int) < (a.length : Int)) := by omega
  refine Ev.step (fun _ => rfl) (ev_neg h1 ?_)
  rw [List.drop_of_length_le (by omega), List.drop_of_length_le (by omega)]
  exact Ev.now _
 | d + 1, i, h => by
  have h1 : (i : Int) < (a.length : Int) := by omega
  refine Ev.step (fun _ => rfl) (ev_pos h1 (ev_pos (by omega) (ev_pos (by omega) ?_)))
  rw [wrap_succ (by omega), rd_get (by omega : i < a.length), rd_get (by omega : i < b.length)]
  rw [List.drop_eq_getElem_cons (by omega : i < a.length), List.drop_eq_getElem_cons (by omega : i < b.length)]
  refine ev_ite (fun e => ?_) (fun e => ?_)
  ·
   rw [decide_eq_decide.mpr (show (a[i] :: a.drop (i + 1) = b[i] :: b.drop (i + 1)) ↔ a.drop (i + 1) = b.drop (i + 1) by rw [List.cons.injEq]; exact ⟨fun z => z.2, fun z => ⟨e, z⟩⟩)]
   exact eqIntS_l0 a b hl hab d (i + 1) (by omega)
  ·
   rw [decide_eq_false (show ¬ (a[i] :: a.drop (i + 1) = b[i] :: b.drop (i + 1)) by rw [List.cons.injEq]; exact fun z => e z.1)]
   exact Ev.now false
theorem eqIntS_ev (a b : List Int) (hl : a.length ≤ 9223372036854775806) : Ev (fun k => laws_eqIntS.f k a b) (decide (a = b)) := by
 refine ev_ite (fun e => ?_) (fun e => ?_)
 ·
  simpa using eqIntS_l0 a b hl (by omega) a.length 0 (by omega)
 ·
  have : ¬ a = b := fun z => e (by rw [z])
  simpa [this] using Ev.now false
def marks (q : Nat) (n : Nat) : List Int := (List.range' q n).map Int.ofNat
theorem marks_len (q n : Nat) : (marks q n).length = n := by simp [marks]
theorem marks_get (q n i : Nat) (h : i < (marks q n).length) : (marks q n)[i] = ((q + i : Nat) : Int) := by simp [marks]
theorem markIntS_l0 (n : Nat) (hn : n ≤ 4611686018427387903) (q : Nat) (hq : q ≤ 4611686018427387903) : ∀ (d i : Nat) (acc : List Int), i + d = n → acc.length = n → (∀ j (hj : j < acc.length), j < i → acc[j] = ((q + j : Nat) : Int)) →
  Ev (fun k => laws_markIntS.l0 k acc ((q + i : Nat) : Int) i) (((q + n : Nat) : Int), marks q n)
 | 0, i, acc, h, ha, hm => by
  have h1 : ¬ ((i : Int) < (acc.length : Int)) := by omega
  refine Ev.step (fun _ => rfl) (ev_neg h1 ?_)
  have e : acc = marks q n := List.ext_getElem (by rw [ha, marks_len]) (fun j h1 h2 => by rw [hm j h1 (by omega), marks_get])
  have e2 : i = n := by omega
  rw [e, e2]; exact Ev.now _
 | d + 1, i, acc, h, ha, hm => by
  have h1 : (i : Int) < (acc.length : Int) := by omega
  refine Ev.step (fun _ => rfl) (ev_pos h1 (ev_pos (by omega) ?_))
  rw [wrap_succ (by omega), wrap_succ (by omega), Int.toNat_natCast]
  refine markIntS_l0 n hn q hq d (i + 1) (acc.set i ((q + i : Nat) : Int)) (by omega) (by simp [ha]) (fun j hj hji => ?_)
  by_cases e : j = i
  ·
   subst e; simp
  ·
   rw [List.getElem_set_ne (by omega)]; exact hm j _ (by omega)
theorem markIntS_ev (l : List Int) (q : Nat) (hl : l.length ≤ 4611686018427387903) (hq : q ≤ 4611686018427387903) : Ev (fun k => laws_markIntS.f k l (q : Int)) (((q + l.length : Nat) : Int), marks q l.length) :=
 markIntS_l0 l.length hl q hq l.length 0 l (by omega) rfl (fun j _ h => by omega)
theorem heldIntS_l0 (q n : Nat) (hn : n ≤ 4611686018427387903) (hq : q ≤ 4611686018427387903) : ∀ (d i : Nat), i + d = n → Ev (fun k => laws_heldIntS.l0 k (marks q n) ((q + i : Nat) : Int) i) ((q + n : Nat) : Int)
 | 0, i, h => by
  have hm := marks_len q n
  have h1 : ¬ ((i : Int) < ((marks q n).length : Int)) := by omega
  refine Ev.step (fun _ => rfl) (ev_neg h1 ?_)
  have e2 : i = n := by omega
  rw [e2]; exact Ev.now _
 | d + 1, i, h => by
  have hm := marks_len q n
  have h1 : (i : Int) < ((marks q n).length : Int) := by omega
  refine Ev.step (fun _ => rfl) (ev_pos h1 (ev_pos (by omega) (ev_pos ?_ ?_)))
  ·
   rw [rd_get (by omega), marks_get]
  ·
   rw [wrap_succ (by omega), wrap_succ (by omega)]
   exact heldIntS_l0 q n hn hq d (i + 1) (by omega)
theorem heldIntS_ev (q n : Nat) (hn : n ≤ 4611686018427387903) (hq : q ≤ 4611686018427387903) : Ev (fun k => laws_heldIntS.f k (marks q n) (q : Int)) ((q + n : Nat) : Int) :=
 heldIntS_l0 q n hn hq n 0 (by omega)
end Go.Proofs.Ytpdgiinedbdamaa.M
end
section
namespace Go.Proofs.Ytpdgiinedbdamaa.M
open Go.RowKit Go.Proofs.YtpdgiinedbdamaaW.PrintWords Go.Proofs.YtpdgiinedbdamaaW.PrintLast Go.Proofs.YtpdgiinedbdamaaW.PrintMore Go.Proofs.Ytpdgiinedbdamaa.L
theorem l1In_eq (x lo hi : Int) : spec_l1In.f x lo hi = some (inB x lo hi) := by
 unfold spec_l1In.f inB
 by_cases h : lo ≤ x <;> simp [h]
theorem within_eq (x lo hi : Int) : impl_within.f x lo hi = some (inB x lo hi) := by
 unfold impl_within.f inB
 by_cases h : lo ≤ x <;> simp [h]
end Go.Proofs.Ytpdgiinedbdamaa.M
end
section
namespace Go.Proofs.Ytpdgiinedbdamaa.M
open Go.RowKit Go.Proofs.YtpdgiinedbdamaaW.PrintWords Go.Proofs.YtpdgiinedbdamaaW.PrintLast Go.Proofs.YtpdgiinedbdamaaW.PrintMore Go.Proofs.Ytpdgiinedbdamaa.L
set_option linter.unusedVariables false
theorem has_eq {s e : Nat} (hs : s < 2 ^ 63) (he : e ≤ 64) : impl_has.f (s : Int) (e : Int) = some (s.testBit e) := by
 unfold impl_has.f; rw [if_pos (by omega), bit_and hs he]
theorem poIn_eq {s e : Nat} (he : e ≤ 64) : spec_poIn.f (s : Int) (e : Int) = some (s.testBit e) := by
 unfold spec_poIn.f; rw [if_pos (by omega), bit_mod he]
theorem items_l0 (s : Nat) (hs : s < 2 ^ 63) : ∀ (d i : Nat) (acc : List Nat), i + d = 10 → acc.length ≤ i → Ev (fun k => impl_items.l0 k (s : Int) (toI acc) (i : Int)) (toI (acc ++ (List.range' i d).filter fun e => s.testBit e))
 | 0, i, acc, h, ha => by
  refine Ev.step (fun _ => impl_items.l0.eq_2 ..) (ev_neg (by omega) ?_)
  simpa using Ev.now _
 | d + 1, i, acc, h, ha => by
  refine Ev.step (fun _ => impl_items.l0.eq_2 ..) (ev_pos (by omega) (ev_call (has_eq hs (by omega)) ?_))
  rw [wrap_succ (by omega), List.range'_succ]
  refine ev_ite (fun e => ev_pos (by rw [toI_len]; omega) ?_) (fun e => ?_)
  ·
   rw [← toI_one, ← toI_app, List.filter_cons_of_pos e]
   have := items_l0 s hs d (i + 1) (acc ++ [i]) (by omega) (by simp; omega)
   simpa using this
  ·
   rw [List.filter_cons_of_neg e]
   exact items_l0 s hs d (i + 1) acc (by omega) (by omega)
theorem items_ev {s : Nat} (hs : s < 2 ^ 63) : Ev (fun k => impl_items.f k (s : Int)) (toI (items s)) := by
 have h := items_l0 s hs 10 0 [] (by omega) (by simp)
 rw [List.nil_append, ← List.range_eq_range'] at h
 exact h
theorem n_eq (l : List Int) : impl_Poset_n.f l = some (l.length : Int) := rfl
theorem all_eq {p : List Nat} (h : p.length ≤ 10) : impl_Poset_all.f (toI p) = some ((full p : Nat) : Int) := by
 unfold impl_Poset_all.f
 rw [n_eq, Option.bind_some, if_pos (by omega), toI_len, shl_one' (by omega)]; rfl
theorem items_all {m i : Nat} (hm : m < 2 ^ i) (hi : i ≤ 10) (g : Nat → Bool) : (items m).all g = (List.range i).all fun j => !(m.testBit j) || g j := by
 rw [Bool.eq_iff_iff]
 simp only [List.all_eq_true, mem_items, List.mem_range, Bool.or_eq_true, Bool.not_eq_true']
 constructor
 ·
  intro h j hj
  cases hb : m.testBit j
  ·
   exact .inl rfl
  ·
   exact .inr (h j ⟨by omega, hb⟩)
 ·
  rintro h j ⟨_, hb⟩
  rcases h j (bit_lt hm hb) with h2 | h2
  ·
   rw [hb] at h2; cases h2
  ·
   exact h2
theorem pow_small {i : Nat} (h : i ≤ 10) : 2 ^ i ≤ 1024 := by
 have := Nat.pow_le_pow_right (n := 2) (by decide) h
 simpa using this
theorem rd_getD (l : List Int) (i : Nat) : rd l (i : Int) = l.getD i 0 := by simp [rd]
theorem isPoset_l1 (l : List Int) (i m : Nat) (R : Bool) (hl : l.length ≤ 10) (hi : i < l.length) (hm : m < 2 ^ i) (ok : ∀ j, j < i → ∃ a : Nat, l.getD j 0 = (a : Int) ∧ a < 2 ^ j)
  (hR : Ev (fun k => impl_IsPoset.l0 k l (l.length : Int) ((i + 1 : Nat) : Int) l) R) : ∀ (d q : Nat), q + d = (items m).length →
  Ev (fun k => impl_IsPoset.l1 k (m : Int) l (l.length : Int) (i : Int) (toI (items m)) ((toI (items m)).length : Int) (q : Int) l) (((items m).drop q).all (fun j => sd (l.getD j 0).toNat m == 0) && R)
 | 0, q, h => by
  refine Ev.step (fun _ => impl_IsPoset.l1.eq_2 ..) (ev_neg (by rw [toI_len]; omega) ?_)
  rw [List.drop_of_length_le (by omega), List.all_nil, Bool.true_and, wrap_succ (by omega)]
  exact hR
 | d + 1, q, h => by
  have hq : q < (items m).length := by omega
  have hj : (items m)[q] ∈ items m := List.getElem_mem hq
  obtain ⟨_, hb⟩ := mem_items.mp hj
  have hji := bit_lt hm hb
  obtain ⟨a, ha, ha2⟩ := ok _ hji
  have e1 : rd (toI (items m)) (q : Int) = (((items m)[q] : Nat) : Int) := by rw [rd_toI]; simp [List.getD_eq_getElem?_getD, hq]
  have hlen := items_len m
  have hp1 := pow_small (show i ≤ 10 by omega)
  have hp2 := pow_small (show (items m)[q] ≤ 10 by omega)
  refine Ev.step (fun _ => impl_IsPoset.l1.eq_2 ..) ?_
  rw [e1]
  refine ev_pos (by rw [toI_len]; omega) (ev_pos (by omega) (ev_pos (by rw [toI_len]; omega) (ev_pos (by omega) (ev_pos (by omega) ?_))))
  rw [rd_getD, ha, bits_andNot (lt63 ha2 (by omega)) (lt63 hm (by omega)), wrap_succ (by omega), List.drop_eq_getElem_cons hq, List.all_cons, ha, Int.toNat_natCast]
  refine ev_ite (fun e => ?_) (fun e => ?_)
  ·
   have e' : sd a m = 0 := by omega
   rw [e', beq_self_eq_true, Bool.true_and]
   exact isPoset_l1 l i m R hl hi hm ok hR d (q + 1) (by omega)
  ·
   have e' : (sd a m == 0) = false := by rw [beq_eq_false_iff_ne]; omega
   rw [e', Bool.false_and, Bool.false_and]
   exact Ev.now _
theorem isPoset_l0 (l : List Int) (hl : l.length ≤ 10) : ∀ (d i : Nat), i + d = l.length → (∀ j, j < i → ∃ a : Nat, l.getD j 0 = (a : Int) ∧ a < 2 ^ j) →
  Ev (fun k => impl_IsPoset.l0 k l (l.length : Int) (i : Int) l) ((List.range' i d).all (okAt l))
 | 0, i, h, ok => by
  refine Ev.step (fun _ => impl_IsPoset.l0.eq_2 ..) (ev_neg (by omega) ?_)
  exact Ev.now _
 | d + 1, i, h, ok => by
  have hp1 := pow_small (show i ≤ 10 by omega)
  have hpos := Nat.two_pow_pos i
  refine Ev.step (fun _ => impl_IsPoset.l0.eq_2 ..) (ev_pos (by omega) (ev_pos (by omega) (ev_pos (by omega) (ev_call (within_eq _ _ _) ?_))))
  rw [rd_getD, shl_one' (by omega), List.range'_succ, List.all_cons, okAt_def l i]
  refine ev_ite (fun e => ?_) (fun e => ?_)
  ·
   have b := inB_iff.mp e
   obtain ⟨m, hm⟩ : ∃ m : Nat, l.getD i 0 = (m : Int) := ⟨(l.getD i 0).toNat, by omega⟩
   rw [e, Bool.true_and, hm]
   have hm2 : m < 2 ^ i := by omega
   refine Ev.bind (items_ev (lt63 hm2 (by omega))) ?_
   have hnx := isPoset_l0 l hl d (i + 1) (by omega) (fun j hj => by
    by_cases hji : j = i
    ·
     subst hji; exact ⟨m, hm, hm2⟩
    ·
     exact ok j (by omega))
   have := isPoset_l1 l i m _ hl (by omega) hm2 ok hnx (items m).length 0 (by omega)
   rw [List.drop_zero, items_all hm2 (by omega)] at this
   simpa using this
  ·
   rw [Bool.eq_false_iff.mpr e, Bool.false_and, Bool.false_and]
   exact Ev.now _
theorem isPoset_ev (l : List Int) : Ev (fun k => impl_IsPoset.f k l) (goodB l) := by
 refine ev_call (n_eq l) (ev_call (within_eq _ _ _) ?_)
 unfold goodB
 refine ev_ite (fun e => ?_) (fun e => ?_)
 ·
  have b := inB_iff.mp e
  rw [e, Bool.true_and]
  exact isPoset_l0 l (by omega) l.length 0 (by omega) (fun j hj => by omega)
 ·
  rw [Bool.eq_false_iff.mpr e, Bool.false_and]; exact Ev.now _
theorem poGood_l1 (l : List Int) (i m : Nat) (R : Bool) (hl : l.length ≤ 10) (hi : i < l.length) (hm : m < 2 ^ i) (ok : ∀ j, j < i → ∃ a : Nat, l.getD j 0 = (a : Int) ∧ a < 2 ^ j)
  (hR : Ev (fun k => spec_poGood.l0 k l (l.length : Int) ((i + 1 : Nat) : Int) l) R) : ∀ (d j : Nat), j + d = i →
  Ev (fun k => spec_poGood.l1 k (i : Int) (m : Int) (j : Int) l (l.length : Int) (i : Int) l) ((List.range' j d).all (fun j => !(m.testBit j) || sd (l.getD j 0).toNat m == 0) && R)
 | 0, j, h => by
  refine Ev.step (fun _ => spec_poGood.l1.eq_2 ..) (ev_neg (by omega) ?_)
  rw [wrap_succ (by omega)]
  simpa using hR
 | d + 1, j, h => by
  obtain ⟨a, ha, ha2⟩ := ok j (by omega)
  have hp1 := pow_small (show i ≤ 10 by omega)
  have hp2 := pow_small (show j ≤ 10 by omega)
  have ih := poGood_l1 l i m R hl hi hm ok hR d (j + 1) (by omega)
  refine Ev.step (fun _ => spec_poGood.l1.eq_2 ..) (ev_pos (by omega) (ev_pos (by omega) ?_))
  rw [wrap_succ (by omega), List.range'_succ, List.all_cons, rd_getD, ha, bits_andNot (lt63 ha2 (by omega)) (lt63 hm (by omega)), Int.toNat_natCast]
  refine ev_ite (fun e => ?_) (fun e => ?_)
  ·
   rw [bit_mod' (by omega)] at e
   rw [e, Bool.not_true, Bool.false_or]
   refine ev_pos (by omega) (ev_ite (fun e => ?_) (fun e => ?_))
   ·
    have e' : sd a m = 0 := by omega
    rw [e', beq_self_eq_true, Bool.true_and]; exact ih
   ·
    have e' : (sd a m == 0) = false := by rw [beq_eq_false_iff_ne]; omega
    rw [e', Bool.false_and, Bool.false_and]; exact Ev.now _
  ·
   rw [bit_mod' (by omega)] at e
   rw [Bool.eq_false_iff.mpr e, Bool.not_false, Bool.true_or, Bool.true_and]; exact ih
theorem poGood_l0 (l : List Int) (hl : l.length ≤ 10) : ∀ (d i : Nat), i + d = l.length → (∀ j, j < i → ∃ a : Nat, l.getD j 0 = (a : Int) ∧ a < 2 ^ j) →
  Ev (fun k => spec_poGood.l0 k l (l.length : Int) (i : Int) l) ((List.range' i d).all (okAt l))
 | 0, i, h, ok => by
  refine Ev.step (fun _ => spec_poGood.l0.eq_2 ..) (ev_neg (by omega) ?_)
  exact Ev.now _
 | d + 1, i, h, ok => by
  have hp1 := pow_small (show i ≤ 10 by omega)
  have hpos := Nat.two_pow_pos i
  refine Ev.step (fun _ => spec_poGood.l0.eq_2 ..) (ev_pos (by omega) (ev_pos (by omega) (ev_pos (by omega) (ev_call (l1In_eq _ _ _) ?_))))
  rw [rd_getD, shl_one' (by omega), List.range'_succ, List.all_cons, okAt_def l i]
  refine ev_ite (fun e => ?_) (fun e => ?_)
  ·
   have b := inB_iff.mp e
   obtain ⟨m, hm⟩ : ∃ m : Nat, l.getD i 0 = (m : Int) := ⟨(l.getD i 0).toNat, by omega⟩
   rw [e, Bool.true_and, hm]
   have hm2 : m < 2 ^ i := by omega
   have hnx := poGood_l0 l hl d (i + 1) (by omega) (fun j hj => by
    by_cases hji : j = i
    ·
     subst hji; exact ⟨m, hm, hm2⟩
    ·
     exact ok j (by omega))
   have := poGood_l1 l i m _ hl (by omega) hm2 ok hnx i 0 (by omega)
   simpa [List.range_eq_range'] using this
  ·
   rw [Bool.eq_false_iff.mpr e, Bool.false_and, Bool.false_and]
   exact Ev.now _
theorem poGood_ev (l : List Int) : Ev (fun k => spec_poGood.f k l) (goodB l) := by
 refine ev_call (l1In_eq _ _ _) ?_
 unfold goodB
 refine ev_ite (fun e => ?_) (fun e => ?_)
 ·
  have b := inB_iff.mp e
  rw [e, Bool.true_and]
  exact poGood_l0 l (by omega) l.length 0 (by omega) (fun j hj => by omega)
 ·
  rw [Bool.eq_false_iff.mpr e, Bool.false_and]; exact Ev.now _
end Go.Proofs.Ytpdgiinedbdamaa.M
end
section
namespace Go.Proofs.Ytpdgiinedbdamaa.M
open Go.RowKit Go.Proofs.YtpdgiinedbdamaaW.PrintWords Go.Proofs.YtpdgiinedbdamaaW.PrintLast Go.Proofs.YtpdgiinedbdamaaW.PrintMore Go.Proofs.Ytpdgiinedbdamaa.L
set_option linter.unusedVariables false
theorem Good.len63 {p : List Nat} (g : Good p) {s : Nat} (h : s < 2 ^ p.length) : s < 2 ^ 63 := M.lt63 h (by have := g.le; omega)
theorem items_get {m q : Nat} (hq : q < (items m).length) : (items m)[q] < 10 ∧ m.testBit (items m)[q] = true := mem_items.mp (List.getElem_mem hq)
theorem rd_items {m q : Nat} (hq : q < (items m).length) : rd (toI (items m)) (q : Int) = (((items m)[q] : Nat) : Int) := by rw [rd_toI]; simp [List.getD_eq_getElem?_getD, hq]
theorem close_l0 {p : List Nat} (g : Good p) (s : Nat) (hs : s < 2 ^ p.length) : ∀ (d q a : Nat), q + d = (items s).length → a < 2 ^ p.length →
  Ev (fun k => impl_Poset_close.l0 k (a : Int) (toI (items s)) ((toI (items s)).length : Int) (q : Int) (toI p)) (((((items s).drop q).foldl (fun o e => o ||| less p e) a : Nat)) : Int)
 | 0, q, a, h, ha => by
  refine Ev.step (fun _ => impl_Poset_close.l0.eq_2 ..) (ev_neg (by rw [toI_len]; omega) ?_)
  rw [List.drop_of_length_le (by omega)]; exact Ev.now _
 | d + 1, q, a, h, ha => by
  have hq : q < (items s).length := by omega
  have hm := items_get hq
  have hb := bit_lt hs hm.2
  have hl := items_len s
  refine Ev.step (fun _ => impl_Poset_close.l0.eq_2 ..) ?_
  rw [rd_items hq, toI_len, toI_len]
  refine ev_pos (by omega) (ev_pos (by omega) (ev_pos (by omega) (ev_pos (by omega) (ev_pos (by omega) ?_))))
  rw [rd_less, bits_or (g.len63 ha) (g.lt63 _), wrap_succ (by omega), List.drop_eq_getElem_cons hq, List.foldl_cons, ← toI_len]
  exact close_l0 g s hs d (q + 1) _ (by omega) (Nat.or_lt_two_pow ha (g.lt10 _))
theorem close_ev {p : List Nat} (g : Good p) {s : Nat} (hs : s < 2 ^ p.length) : Ev (fun k => impl_Poset_close.f k (toI p) (s : Int)) ((close p s : Nat) : Int) := by
 refine Ev.bind (items_ev (g.len63 hs)) ?_
 have h := close_l0 g s hs (items s).length 0 s (by omega) hs
 rw [List.drop_zero, foldl_items_n _ _ hs g.le] at h
 exact h
theorem poIdeal_l0 {p : List Nat} (g : Good p) (s : Nat) (hs : s < 2 ^ p.length) : ∀ (d i : Nat), i + d = p.length →
  Ev (fun k => spec_poIdeal.l0 k (s : Int) (toI p) ((toI p).length : Int) (i : Int)) ((List.range' i d).all fun e => !(s.testBit e) || sd (less p e) s == 0)
 | 0, i, h => by
  refine Ev.step (fun _ => spec_poIdeal.l0.eq_2 ..) (ev_neg (by rw [toI_len]; omega) (Ev.now _))
 | d + 1, i, h => by
  have := g.le
  have ih := poIdeal_l0 g s hs d (i + 1) (by omega)
  refine Ev.step (fun _ => spec_poIdeal.l0.eq_2 ..) ?_
  refine ev_pos (by rw [toI_len]; omega) (ev_pos (by omega) (ev_pos (by rw [toI_len]; omega) (ev_call (poIn_eq (by omega)) ?_)))
  rw [rd_less, bits_andNot (g.lt63 _) (g.len63 hs), wrap_succ (by omega), List.range'_succ, List.all_cons]
  refine ev_ite (fun e => ?_) (fun e => ?_)
  ·
   rw [e, Bool.not_true, Bool.false_or]
   refine ev_ite (fun e => ?_) (fun e => ?_)
   ·
    have e' : sd (less p i) s = 0 := by omega
    rw [e', beq_self_eq_true, Bool.true_and]; exact ih
   ·
    have e' : (sd (less p i) s == 0) = false := by rw [beq_eq_false_iff_ne]; omega
    rw [e', Bool.false_and]; exact Ev.now _
  ·
   rw [Bool.eq_false_iff.mpr e, Bool.not_false, Bool.true_or, Bool.true_and]; exact ih
theorem poIdeal_ev {p : List Nat} (g : Good p) {s : Nat} (hs : s < 2 ^ p.length) : Ev (fun k => spec_poIdeal.f k (toI p) (s : Int)) (idealB p s) := poIdeal_l0 g s hs p.length 0 (by omega)
end Go.Proofs.Ytpdgiinedbdamaa.M
end
section
namespace Go.Proofs.Ytpdgiinedbdamaa.M
open Go.RowKit Go.Proofs.YtpdgiinedbdamaaW.PrintWords Go.Proofs.YtpdgiinedbdamaaW.PrintLast Go.Proofs.YtpdgiinedbdamaaW.PrintMore Go.Proofs.Ytpdgiinedbdamaa.L
set_option linter.unusedVariables false
def tg (p : List Nat) (s e : Nat) : Nat := if idealB p (s ^^^ 2 ^ e) = true then s ^^^ 2 ^ e else s
theorem pow_lt' {p : List Nat} {e : Nat} (h : e < p.length) : 2 ^ e < 2 ^ p.length := Nat.pow_lt_pow_right (by decide) h
theorem tg_id {p : List Nat} {s e : Nat} (hs : IsId p s) (h : e < p.length) : IsId p (tg p s e) := by
 unfold tg; split
 ·
  rename_i h2; exact (idealB_iff (Nat.xor_lt_two_pow hs.1 (pow_lt' h))).mp h2
 ·
  exact hs
theorem xor_bit (s e i : Nat) : (s ^^^ 2 ^ e).testBit i = (s.testBit i ^^ decide (e = i)) := by rw [Nat.testBit_xor, Nat.testBit_two_pow]
theorem xor_ne {s e i : Nat} (h : e ≠ i) : (s ^^^ 2 ^ e).testBit i = s.testBit i := by rw [xor_bit]; simp [h]
theorem xor_eq (s e : Nat) : (s ^^^ 2 ^ e).testBit e = !s.testBit e := by rw [xor_bit]; simp
def Can (p : List Nat) (s e : Nat) : Prop := (s.testBit e = true → ∀ f, s.testBit f = true → (less p f).testBit e = false) ∧ (s.testBit e = false → ∀ f, (less p e).testBit f = true → s.testBit f = true)
theorem can_iff {p : List Nat} (g : Good p) {s e : Nat} (hs : IsId p s) (he : e < p.length) : idealB p (s ^^^ 2 ^ e) = true ↔ Can p s e := by
 rw [idealB_iff (Nat.xor_lt_two_pow hs.1 (pow_lt' he))]
 constructor
 ·
  rintro ⟨_, h⟩
  refine ⟨fun h1 f hf => ?_, fun h1 f hf => ?_⟩
  ·
   apply Bool.eq_false_iff.mpr
   intro hc
   have b := g.bit hc
   have := h f (by rw [xor_ne (by omega)]; exact hf) e hc
   rw [xor_eq, h1] at this; cases this
  ·
   have b := g.bit hf
   have := h e (by rw [xor_eq, h1]; rfl) f hf
   rwa [xor_ne (by omega)] at this
 ·
  rintro ⟨h1, h2⟩
  refine ⟨Nat.xor_lt_two_pow hs.1 (pow_lt' he), fun f hf i hi => ?_⟩
  have b := g.bit hi
  by_cases c : e = f
  ·
   subst c
   rw [xor_eq, Bool.not_eq_true'] at hf
   rw [xor_ne (by omega)]
   exact h2 hf i hi
  ·
   rw [xor_ne c] at hf
   have hsi := hs.2 f hf i hi
   by_cases c2 : e = i
   ·
    subst c2
    rw [h1 hsi f hf] at hi; cases hi
   ·
    rw [xor_ne c2]; exact hsi
theorem tg_ne {p : List Nat} {s e i : Nat} (h : e ≠ i) : (tg p s e).testBit i = s.testBit i := by
 unfold tg; split
 ·
  exact xor_ne h
 ·
  rfl
theorem tg_eq {p : List Nat} (g : Good p) {s e : Nat} (hs : IsId p s) (he : e < p.length) : (tg p s e).testBit e = true ↔ (s.testBit e = true ∧ ∃ f, s.testBit f = true ∧ (less p f).testBit e = true) ∨ (s.testBit e = false ∧ ∀ f, (less p e).testBit f = true → s.testBit f = true) := by
 have hc := can_iff g hs he
 unfold tg
 cases hb : s.testBit e
 ·
  by_cases c : idealB p (s ^^^ 2 ^ e) = true
  ·
   rw [if_pos c, xor_eq, hb]
   exact ⟨fun _ => .inr ⟨rfl, (hc.mp c).2 hb⟩, fun _ => rfl⟩
  ·
   rw [if_neg c, hb]
   refine ⟨fun h => (by cases h), fun h => ?_⟩
   rcases h with h | h
   ·
    cases h.1
   ·
    exact absurd (hc.mpr ⟨fun h1 => (by rw [hb] at h1; cases h1), fun _ => h.2⟩) c
 ·
  by_cases c : idealB p (s ^^^ 2 ^ e) = true
  ·
   rw [if_pos c, xor_eq, hb]
   refine ⟨fun h => (by cases h), fun h => ?_⟩
   rcases h with ⟨_, f, hf, hl⟩ | h
   ·
    rw [(hc.mp c).1 hb f hf] at hl; cases hl
   ·
    cases h.1
  ·
   rw [if_neg c, hb]
   refine ⟨fun _ => .inl ⟨rfl, ?_⟩, fun _ => rfl⟩
   apply Classical.byContradiction
   intro hn
   refine c (hc.mpr ⟨fun _ f hf => ?_, fun h => by rw [hb] at h; cases h⟩)
   apply Bool.eq_false_iff.mpr
   intro hl
   exact hn ⟨f, hf, hl⟩
def bot (p : List Nat) (u : Nat) : Nat := foldBits p.length u (fun o e => if less p e &&& u = 0 then o ||| 2 ^ e else o) 0
theorem and_zero {a b : Nat} : a &&& b = 0 ↔ ∀ i, a.testBit i = true → b.testBit i = false := by
 constructor
 ·
  intro h i hi
  have : (a &&& b).testBit i = false := by rw [h, Nat.zero_testBit]
  rw [Nat.testBit_and, hi, Bool.true_and] at this; exact this
 ·
  intro h
  apply Nat.eq_of_testBit_eq
  intro i
  rw [Nat.testBit_and, Nat.zero_testBit]
  cases ha : a.testBit i
  ·
   rfl
  ·
   rw [h i ha]; rfl
theorem foldPut_bit (c : Nat → Prop) [DecidablePred c] (u a i : Nat) : ∀ n, (foldBits n u (fun o e => if c e then o ||| 2 ^ e else o) a).testBit i = true ↔ (a.testBit i = true ∨ (i < n ∧ u.testBit i = true ∧ c i))
 | 0 => by simp [foldBits]
 | n + 1 => by
  rw [foldBits_succ]
  have ih := foldPut_bit c u a i n
  by_cases hu : u.testBit n = true
  ·
   rw [if_pos hu]
   by_cases hc : c n
   ·
    rw [if_pos hc, Nat.testBit_or, Bool.or_eq_true, ih, Nat.testBit_two_pow, decide_eq_true_eq]
    constructor
    ·
     rintro ((h | ⟨h1, h2⟩) | h)
     ·
      exact .inl h
     ·
      exact .inr ⟨by omega, h2⟩
     ·
      subst h; exact .inr ⟨by omega, hu, hc⟩
    ·
     rintro (h | ⟨h1, h2⟩)
     ·
      exact .inl (.inl h)
     ·
      by_cases e : n = i
      ·
       exact .inr e
      ·
       exact .inl (.inr ⟨by omega, h2⟩)
   ·
    rw [if_neg hc, ih]
    refine or_congr_right ⟨fun h => ⟨by omega, h.2⟩, fun h => ⟨?_, h.2⟩⟩
    have : i ≠ n := fun e => by subst e; exact hc h.2.2
    omega
  ·
   rw [if_neg hu, ih]
   refine or_congr_right ⟨fun h => ⟨by omega, h.2⟩, fun h => ⟨?_, h.2⟩⟩
   have : i ≠ n := fun e => by subst e; exact hu h.2.1
   omega
theorem bot_bit {p : List Nat} {u : Nat} (hu : u < 2 ^ p.length) (i : Nat) : (bot p u).testBit i = true ↔ u.testBit i = true ∧ ∀ j, (less p i).testBit j = true → u.testBit j = false := by
 unfold bot
 rw [foldPut_bit (fun e => less p e &&& u = 0), Nat.zero_testBit]
 constructor
 ·
  rintro (h | ⟨h1, h2, h3⟩)
  ·
   cases h
  ·
   exact ⟨h2, and_zero.mp h3⟩
 ·
  rintro ⟨h1, h2⟩
  exact .inr ⟨bit_lt hu h1, h1, and_zero.mpr h2⟩
theorem put_lt {n : Nat} (c : Nat → Prop) [DecidablePred c] (u : Nat) : foldBits n u (fun o e => if c e then o ||| 2 ^ e else o) 0 < 2 ^ n :=
 foldBits_inv _ _ _ _ (· < 2 ^ n) (Nat.two_pow_pos _) (fun a e ha he _ => by
  split
  ·
   exact Nat.or_lt_two_pow ha (Nat.pow_lt_pow_right (by decide) he)
  ·
   exact ha)
theorem bot_lt {p : List Nat} (u : Nat) : bot p u < 2 ^ p.length := put_lt _ u
def row (p : List Nat) (s : Nat) : Nat := close p (bot p (sd (full p) s))
theorem co_lt {p : List Nat} (s : Nat) : sd (full p) s < 2 ^ p.length := sd_lt s (full_lt p)
theorem co_bit {p : List Nat} {s i : Nat} : (sd (full p) s).testBit i = true ↔ i < p.length ∧ s.testBit i = false := by
 rw [sd_bit, full_bit, Bool.and_eq_true, decide_eq_true_eq, Bool.not_eq_true']
theorem row_lt {p : List Nat} (g : Good p) (s : Nat) : row p s < 2 ^ p.length := close_lt g (bot_lt _)
theorem row_bit {p : List Nat} (g : Good p) {s : Nat} (hs : IsId p s) (i : Nat) : (row p s).testBit i = true ↔ ∃ e, e < p.length ∧ s.testBit e = false ∧ (∀ j, (less p e).testBit j = true → s.testBit j = true) ∧ (e = i ∨ (less p e).testBit i = true) := by
 unfold row
 rw [close_bit (bot_lt _)]
 have hb : ∀ e, (bot p (sd (full p) s)).testBit e = true ↔ e < p.length ∧ s.testBit e = false ∧ (∀ j, (less p e).testBit j = true → s.testBit j = true) := by
  intro e
  rw [bot_bit (co_lt s), co_bit, and_assoc]
  refine and_congr_right fun h1 => and_congr_right fun h2 => forall_congr' fun j => forall_congr' fun hj => ?_
  have b := g.bit hj
  rw [← Bool.not_eq_true, co_bit, not_and, Bool.not_eq_false]
  exact ⟨fun h => h (by omega), fun h _ => h⟩
 constructor
 ·
  rintro (h | ⟨e, h, hl⟩)
  ·
   have := (hb i).mp h
   exact ⟨i, this.1, this.2.1, this.2.2, .inl rfl⟩
  ·
   have := (hb e).mp h
   exact ⟨e, this.1, this.2.1, this.2.2, .inr hl⟩
 ·
  rintro ⟨e, h1, h2, h3, h4⟩
  rcases h4 with h4 | h4
  ·
   subst h4; exact .inl ((hb e).mpr ⟨h1, h2, h3⟩)
  ·
   exact .inr ⟨e, (hb e).mpr ⟨h1, h2, h3⟩, h4⟩
theorem row_id {p : List Nat} (g : Good p) {s : Nat} (hs : IsId p s) : IsId p (row p s) := by
 refine ⟨row_lt g s, fun e he i hi => ?_⟩
 rw [row_bit g hs] at he ⊢
 obtain ⟨f, h1, h2, h3, h4⟩ := he
 refine ⟨f, h1, h2, h3, .inr ?_⟩
 rcases h4 with h4 | h4
 ·
  rw [h4]; exact hi
 ·
  exact g.tr' h4 hi
structure Mid (p : List Nat) (s t : Nat) (P : Nat → Prop) (x : Nat) : Prop where
 id : IsId p x
 on : ∀ i, i < p.length → P i → x.testBit i = t.testBit i
 off : ∀ i, i < p.length → ¬ P i → x.testBit i = s.testBit i
theorem Mid.step {p : List Nat} {s t x i : Nat} {P Q : Nat → Prop} (I : Mid p s t P x) (hi : i < p.length) (hQ : ∀ k, k < p.length → (Q k ↔ P k ∨ k = i)) (h : (tg p x i).testBit i = t.testBit i) : Mid p s t Q (tg p x i) := by
 refine ⟨tg_id I.id hi, fun k hk hq => ?_, fun k hk hq => ?_⟩
 ·
  by_cases c : i = k
  ·
   subst c; exact h
  ·
   rw [tg_ne c]
   rcases (hQ k hk).mp hq with h | h
   ·
    exact I.on k hk h
   ·
    exact absurd h.symm c
 ·
  rw [tg_ne (fun c => hq ((hQ k hk).mpr (.inr c.symm)))]
  exact I.off k hk fun h => hq ((hQ k hk).mpr (.inl h))
theorem Mid.all {p : List Nat} {s t x : Nat} {P : Nat → Prop} (I : Mid p s t P x) (ht : t < 2 ^ p.length) (h : ∀ i, i < p.length → P i) : x = t := by
 apply Nat.eq_of_testBit_eq
 intro i
 by_cases hi : i < p.length
 ·
  exact I.on i hi (h i hi)
 ·
  have big : ∀ y, y < 2 ^ p.length → y.testBit i = false := fun y hy => Nat.testBit_lt_two_pow (Nat.lt_of_lt_of_le hy (Nat.pow_le_pow_right (by decide) (by omega)))
  rw [big x I.id.1, big t ht]
theorem Mid.none {p : List Nat} {s : Nat} (t : Nat) (hs : IsId p s) {P : Nat → Prop} (h : ∀ i, i < p.length → ¬ P i) : Mid p s t P s :=
 ⟨hs, fun i hi hp => absurd hp (h i hi), fun _ _ _ => rfl⟩
theorem Mid.row {p : List Nat} (g : Good p) {s x i : Nat} {P Q : Nat → Prop} (hs : IsId p s) (I : Mid p s (row p s) P x) (hi : i < p.length) (hP : ¬ P i) (up : ∀ k, (less p k).testBit i = true → P k)
  (dn : ∀ j, (less p i).testBit j = true → ¬ P j) (hQ : ∀ k, k < p.length → (Q k ↔ P k ∨ k = i)) : Mid p s (M.row p s) Q (tg p x i) := by
 refine I.step hi hQ ?_
 have xi := I.off i hi hP
 rw [Bool.eq_iff_iff, tg_eq g I.id hi, xi]
 cases hb : s.testBit i
 ·
  constructor
  ·
   rintro (h | ⟨_, h⟩)
   ·
    cases h.1
   ·
    rw [row_bit g hs]
    refine ⟨i, hi, hb, fun j hj => ?_, .inl rfl⟩
    have b := g.bit hj
    rw [← I.off j (by omega) (dn j hj)]; exact h j hj
  ·
   intro h
   rw [row_bit g hs] at h
   obtain ⟨e, h1, h2, h3, h4⟩ := h
   refine .inr ⟨rfl, fun f hf => ?_⟩
   have b := g.bit hf
   rw [I.off f (by omega) (dn f hf)]
   rcases h4 with h4 | h4
   ·
    rw [h4] at h3; exact h3 f hf
   ·
    have := h3 i h4
    rw [hb] at this; cases this
 ·
  constructor
  ·
   rintro (⟨_, f, hf, hl⟩ | h)
   ·
    have b := g.bit hl
    have := I.on f b.2 (up f hl)
    rw [hf] at this
    exact (row_id g hs).2 f this.symm i hl
   ·
    cases h.1
  ·
   intro h
   rw [row_bit g hs] at h
   obtain ⟨e, h1, h2, h3, h4⟩ := h
   rcases h4 with h4 | h4
   ·
    subst h4; rw [hb] at h2; cases h2
   ·
    refine .inl ⟨rfl, e, ?_, h4⟩
    rw [I.on e h1 (up e h4), row_bit g hs]
    exact ⟨e, h1, h2, h3, .inl rfl⟩
theorem fold_row {p : List Nat} (g : Good p) {s : Nat} (hs : IsId p s) : (List.range p.length).reverse.foldl (tg p) s = row p s := by
 have : ∀ d n, n + d = p.length → Mid p s (row p s) (n ≤ ·) ((List.range' n d).reverse.foldl (tg p) s) := by
  intro d
  induction d with
  | zero => intro n hn; exact Mid.none _ hs (fun i _ h => by omega)
  | succ d ih =>
   intro n hn
   rw [List.range'_succ, List.reverse_cons, List.foldl_append]
   refine (ih (n + 1) (by omega)).row g hs (by omega) (by omega) (fun k hk => ?_) (fun j hj => ?_) (fun k _ => by omega)
   ·
    have := g.bit hk; omega
   ·
    have := g.bit hj; omega
 have h := this p.length 0 (by omega)
 rw [← List.range_eq_range'] at h
 exact h.all (row_lt g s) (fun i hi => Nat.zero_le _)
theorem bottom_l0 {p : List Nat} (g : Good p) (u : Nat) (hu : u < 2 ^ p.length) : ∀ (d q a : Nat), q + d = (items u).length → a < 2 ^ p.length →
  Ev (fun k => impl_Poset_bottom.l0 k (u : Int) (a : Int) (toI (items u)) ((toI (items u)).length : Int) (q : Int) (toI p)) (((((items u).drop q).foldl (fun o e => if less p e &&& u = 0 then o ||| 2 ^ e else o) a : Nat)) : Int)
 | 0, q, a, h, ha => by
  refine Ev.step (fun _ => impl_Poset_bottom.l0.eq_2 ..) (ev_neg (by rw [toI_len]; omega) ?_)
  rw [List.drop_of_length_le (by omega)]; exact Ev.now _
 | d + 1, q, a, h, ha => by
  have gl := g.le
  have hq : q < (items u).length := by omega
  have hm := items_get hq
  have hb := bit_lt hu hm.2
  have hl := items_len u
  have h2 := pow_lt' hb
  refine Ev.step (fun _ => impl_Poset_bottom.l0.eq_2 ..) ?_
  rw [rd_items hq]
  refine ev_pos (by rw [toI_len]; omega) (ev_pos (by omega) (ev_pos (by rw [toI_len]; omega) (ev_pos (by omega) (ev_pos (by rw [toI_len]; omega) ?_))))
  rw [rd_less, bits_and (g.lt63 _) (g.len63 hu), wrap_succ (by omega), shl_one (by omega), bits_or (g.len63 ha) (g.len63 h2), List.drop_eq_getElem_cons hq, List.foldl_cons]
  refine ev_ite (fun e => ?_) (fun e => ?_)
  ·
   rw [if_pos (by omega)]
   exact bottom_l0 g u hu d (q + 1) _ (by omega) (Nat.or_lt_two_pow ha h2)
  ·
   rw [if_neg (by omega)]
   exact bottom_l0 g u hu d (q + 1) _ (by omega) ha
theorem bottom_ev {p : List Nat} (g : Good p) {u : Nat} (hu : u < 2 ^ p.length) : Ev (fun k => impl_Poset_bottom.f k (toI p) (u : Int)) ((bot p u : Nat) : Int) := by
 refine Ev.bind (items_ev (g.len63 hu)) ?_
 have h := bottom_l0 g u hu _ 0 0 (Nat.zero_add _) (Nat.two_pow_pos _)
 rw [List.drop_zero, foldl_items_n _ _ hu g.le] at h
 exact h
theorem row_ev {p : List Nat} (g : Good p) {s : Nat} (hs : s < 2 ^ p.length) : Ev (fun k => impl_Poset_row.f k (toI p) (s : Int)) ((row p s : Nat) : Int) := by
 refine ev_call (all_eq g.le) ?_
 rw [bits_andNot (g.len63 (full_lt p)) (g.len63 hs)]
 exact Ev.bind (bottom_ev g (co_lt s)) (Ev.bind (close_ev g (bot_lt _)) (Ev.now _))
theorem poBottom_l0 {p : List Nat} (g : Good p) (u : Nat) (hu : u < 2 ^ p.length) : ∀ (d i a : Nat), i + d = p.length → a < 2 ^ p.length →
  Ev (fun k => spec_poBottom.l0 k (u : Int) (a : Int) (toI p) ((toI p).length : Int) (i : Int)) (((List.range' i d).foldl (fun o e => if u.testBit e = true then (if less p e &&& u = 0 then o ||| 2 ^ e else o) else o) a : Nat) : Int)
 | 0, i, a, h, ha => Ev.step (fun _ => spec_poBottom.l0.eq_2 ..) (ev_neg (by rw [toI_len]; omega) (Ev.now _))
 | d + 1, i, a, h, ha => by
  have gl := g.le
  have h2 := pow_lt' (p := p) (e := i) (by omega)
  refine Ev.step (fun _ => spec_poBottom.l0.eq_2 ..) (ev_pos (by rw [toI_len]; omega) (ev_pos (by omega) (ev_pos (by rw [toI_len]; omega) (ev_call (poIn_eq (by omega)) ?_))))
  rw [rd_less, bits_and (g.lt63 _) (g.len63 hu), wrap_succ (by omega), shl_one (by omega), bits_or (g.len63 ha) (g.len63 h2), List.range'_succ, List.foldl_cons]
  refine ev_ite (fun e => ?_) (fun e => ?_)
  ·
   rw [if_pos e]
   refine ev_ite (fun e => ?_) (fun e => ?_)
   ·
    rw [if_pos (by omega)]; exact poBottom_l0 g u hu d (i + 1) _ (by omega) (Nat.or_lt_two_pow ha h2)
   ·
    rw [if_neg (by omega)]; exact poBottom_l0 g u hu d (i + 1) _ (by omega) ha
  ·
   rw [if_neg e]; exact poBottom_l0 g u hu d (i + 1) _ (by omega) ha
theorem poBottom_ev {p : List Nat} (g : Good p) {u : Nat} (hu : u < 2 ^ p.length) : Ev (fun k => spec_poBottom.f k (toI p) (u : Int)) ((bot p u : Nat) : Int) := by
 have h := poBottom_l0 g u hu p.length 0 0 (by omega) (Nat.two_pow_pos _)
 rw [← List.range_eq_range'] at h
 exact h
theorem poDown_l0 {p : List Nat} (g : Good p) (u : Nat) (hu : u < 2 ^ p.length) : ∀ (d i a : Nat), i + d = p.length → a < 2 ^ p.length →
  Ev (fun k => spec_poDown.l0 k (u : Int) (a : Int) (toI p) ((toI p).length : Int) (i : Int)) (((List.range' i d).foldl (fun o e => if u.testBit e = true then o ||| less p e else o) a : Nat) : Int)
 | 0, i, a, h, ha => Ev.step (fun _ => spec_poDown.l0.eq_2 ..) (ev_neg (by rw [toI_len]; omega) (Ev.now _))
 | d + 1, i, a, h, ha => by
  have gl := g.le
  refine Ev.step (fun _ => spec_poDown.l0.eq_2 ..) (ev_pos (by rw [toI_len]; omega) (ev_pos (by omega) (ev_pos (by rw [toI_len]; omega) (ev_call (poIn_eq (by omega)) ?_))))
  rw [rd_less, bits_or (g.len63 ha) (g.lt63 _), wrap_succ (by omega), List.range'_succ, List.foldl_cons]
  refine ev_ite (fun e => ?_) (fun e => ?_)
  ·
   rw [if_pos e]; exact poDown_l0 g u hu d (i + 1) _ (by omega) (Nat.or_lt_two_pow ha (g.lt10 _))
  ·
   rw [if_neg e]; exact poDown_l0 g u hu d (i + 1) _ (by omega) ha
theorem poDown_ev {p : List Nat} (g : Good p) {u : Nat} (hu : u < 2 ^ p.length) : Ev (fun k => spec_poDown.f k (toI p) (u : Int)) ((close p u : Nat) : Int) := by
 have h := poDown_l0 g u hu p.length 0 u (by omega) hu
 rw [← List.range_eq_range'] at h
 exact h
theorem tgRow_ev {p : List Nat} (g : Good p) {s : Nat} (hs : s < 2 ^ p.length) : Ev (fun k => spec_tgRow.f k (toI p) (s : Int)) ((row p s : Nat) : Int) := by
 have gl := g.le
 have hf : full p = 2 ^ p.length - 1 := rfl
 unfold spec_tgRow.f
 rw [toI_len, shl_one' (by omega), ← hf, bits_andNot (g.len63 (full_lt p)) (g.len63 hs)]
 exact Ev.bind (poBottom_ev g (co_lt s)) (Ev.bind (poDown_ev g (bot_lt _)) (Ev.now _))
end Go.Proofs.Ytpdgiinedbdamaa.M
end
section
namespace Go.Proofs.Ytpdgiinedbdamaa.M
open Go.RowKit Go.Proofs.YtpdgiinedbdamaaW.PrintWords Go.Proofs.YtpdgiinedbdamaaW.PrintLast Go.Proofs.YtpdgiinedbdamaaW.PrintMore Go.Proofs.Ytpdgiinedbdamaa.L
set_option linter.unusedVariables false
theorem ev_all {α β : Type} {f : Nat → α → Option β} {r : α → β} : ∀ l : List α, (∀ x ∈ l, Ev (fun k => f k x) (r x)) → ∃ K, ∀ k, K ≤ k → ∀ x ∈ l, f k x = some (r x)
 | [], _ => ⟨0, fun _ _ x hx => absurd hx (by simp)⟩
 | a :: l, h => by
  obtain ⟨K, hK⟩ := ev_all l fun x hx => h x (List.mem_cons_of_mem _ hx)
  obtain ⟨K', hK'⟩ := h a List.mem_cons_self
  refine ⟨max K K', fun k hk x hx => ?_⟩
  rcases List.mem_cons.mp hx with e | hx
  ·
   subst e; exact hK' k (by omega)
  ·
   exact hK k (by omega) x hx
def idls (p : List Nat) : List Nat := (List.range (2 ^ p.length)).filter (idealB p)
theorem pow_le10 {p : List Nat} (g : Good p) : 2 ^ p.length ≤ 1024 := Nat.pow_le_pow_right (by omega) (show p.length ≤ 10 from g.le)
theorem idls_len {p : List Nat} (g : Good p) : (idls p).length ≤ 1024 := by
 unfold idls
 have := List.length_filter_le (idealB p) (List.range (2 ^ p.length))
 rw [List.length_range] at this
 exact Nat.le_trans this (pow_le10 g)
theorem mem_idls {p : List Nat} {s : Nat} : s ∈ idls p ↔ IsId p s := by
 unfold idls
 rw [List.mem_filter, List.mem_range]
 constructor
 ·
  rintro ⟨h1, h2⟩; exact (idealB_iff h1).mp h2
 ·
  intro h; exact ⟨h.1, (idealB_iff h.1).mpr h⟩
theorem poIdeals_l0 {p : List Nat} (g : Good p) : ∀ (d i : Nat) (acc : List Nat), i + d = 2 ^ p.length → acc.length ≤ i →
  Ev (fun k => spec_poIdeals.l0 k (toI acc) (i : Int) (toI p)) (toI (acc ++ (List.range' i d).filter (idealB p)))
 | 0, i, acc, h, ha => by
  refine Ev.step (fun _ => spec_poIdeals.l0.eq_2 ..) ?_
  have gl := g.le
  rw [toI_len, shl_one (by omega)]
  refine ev_neg (by omega) ?_
  rw [List.range'_zero, List.filter_nil, List.append_nil]
  exact Ev.now _
 | d + 1, i, acc, h, ha => by
  refine Ev.step (fun _ => spec_poIdeals.l0.eq_2 ..) ?_
  have gl := g.le
  have gp := pow_le10 g
  rw [toI_len, shl_one (by omega), List.range'_succ, List.filter_cons, wrap_succ (by omega)]
  refine ev_pos (by omega) (Ev.bind (poIdeal_ev g (show i < 2 ^ p.length by omega)) (ev_ite (fun e => ?_) (fun e => ?_)))
  ·
   rw [if_pos e]
   refine ev_pos (by rw [toI_len]; omega) ?_
   rw [← toI_one, ← toI_app]
   have e2 := poIdeals_l0 g d (i + 1) (acc ++ [i]) (by omega) (by rw [List.length_append, List.length_singleton]; omega)
   rw [List.append_assoc] at e2
   exact e2
  ·
   rw [if_neg e]
   exact poIdeals_l0 g d (i + 1) _ (by omega) (by omega)
theorem poIdeals_ev {p : List Nat} (g : Good p) : Ev (fun k => spec_poIdeals.f k (toI p)) (toI (idls p)) := by
 have := poIdeals_l0 g (2 ^ p.length) 0 [] (by omega) (Nat.le_refl 0)
 rw [List.nil_append, ← List.range_eq_range'] at this
 exact this
theorem sets_l0 {p : List Nat} (g : Good p) (i : Fn1) (hi : ∀ s : Nat, s < 2 ^ p.length → i.p (s : Int) = some (idealB p s)) (N : Nat) (hN : N = 2 ^ p.length) : ∀ (d q : Nat) (acc : List Nat), q + d = N → acc.length ≤ q →
  Ev (fun k => @impl_Poset_sets.l0 i k (toI acc) (N : Int) (q : Int)) (toI (acc ++ (List.range' q d).filter (idealB p)))
 | 0, q, acc, h, ha => by
  refine Ev.step (fun _ => @impl_Poset_sets.l0.eq_2 i ..) (ev_neg (by omega) ?_)
  rw [List.range'_zero, List.filter_nil, List.append_nil]
  exact Ev.now _
 | d + 1, q, acc, h, ha => by
  refine Ev.step (fun _ => @impl_Poset_sets.l0.eq_2 i ..) ?_
  have gp := pow_le10 g
  rw [← hN] at gp
  rw [List.range'_succ, List.filter_cons, wrap_succ (by omega)]
  refine ev_pos (by omega) (ev_call (hi q (by rw [← hN]; omega)) (ev_ite (fun e => ?_) (fun e => ?_)))
  ·
   rw [if_pos e]
   refine ev_pos (by rw [toI_len]; omega) ?_
   rw [← toI_one, ← toI_app]
   have e2 := sets_l0 g i hi N hN d (q + 1) (acc ++ [q]) (by omega) (by rw [List.length_append, List.length_singleton]; omega)
   rw [List.append_assoc] at e2
   exact e2
  ·
   rw [if_neg e]
   exact sets_l0 g i hi N hN d (q + 1) _ (by omega) (by omega)
theorem implIdeals_ev {p : List Nat} (g : Good p) : Ev (fun k => impl_Poset_ideals.f k (toI p)) (toI (idls p)) := by
 obtain ⟨K, hK⟩ := ev_all (f := fun k (s : Nat) => impl_Poset_close.f k (toI p) (s : Int)) (r := fun s => ((close p s : Nat) : Int)) (List.range (2 ^ p.length)) fun s hs => close_ev g (List.mem_range.mp hs)
 have hi : ∀ k, K ≤ k → ∀ s : Nat, s < 2 ^ p.length → (impl_Poset_ideals.inst k (toI p)).p (s : Int) = some (idealB p s) := by
  intro k hk s hs
  show (impl_Poset_close.f k (toI p) (s : Int)).map (· == (s : Int)) = some (idealB p s)
  rw [hK k hk s (List.mem_range.mpr hs), Option.map_some]
  refine congrArg some ?_
  rw [Bool.eq_iff_iff, beq_iff_eq, idealB_iff hs, ← close_eq_iff hs]
  omega
 obtain ⟨K', h⟩ := sets_l0 g _ (hi K (Nat.le_refl _)) _ rfl (2 ^ p.length) 0 [] (by omega) (Nat.le_refl 0)
 refine Ev.of (impl_Poset_ideals.mono _) (k := max K K') ?_
 unfold impl_Poset_ideals.f impl_Poset_sets.f
 have gl := g.le
 have e1 : wrap64 (((full p : Nat) : Int) + 1) = ((2 ^ p.length : Nat) : Int) := by
  have h2 := Nat.two_pow_pos p.length
  have gp := pow_le10 g
  unfold full
  rw [show (((2 ^ p.length - 1 : Nat) : Int) + 1) = ((2 ^ p.length : Nat) : Int) by omega]
  exact wrap_id (by omega) (by omega)
 rw [all_eq gl, Option.bind_some, e1]
 have h3 := h (max K K') (by omega)
 rw [List.nil_append, ← List.range_eq_range'] at h3
 refine impl_Poset_ideals.mono_i _ _ (fun s r hr => ?_) _ _ _ _ _ h3
 obtain ⟨v, hv, e⟩ := Option.map_eq_some_iff.mp hr
 exact Option.map_eq_some_iff.mpr ⟨v, at_rounds (impl_Poset_close.mono _ _) (show K ≤ max K K' by omega) hv, e⟩
end Go.Proofs.Ytpdgiinedbdamaa.M
end
section
namespace Go.Proofs.Ytpdgiinedbdamaa.M
open Go.RowKit Go.Proofs.YtpdgiinedbdamaaW.PrintWords Go.Proofs.YtpdgiinedbdamaaW.PrintLast Go.Proofs.YtpdgiinedbdamaaW.PrintMore Go.Proofs.Ytpdgiinedbdamaa.L
set_option linter.unusedVariables false
theorem nodup_sub_len : ∀ {l M : List Nat}, l.Nodup → (∀ x ∈ l, x ∈ M) → l.length ≤ M.length
 | [], M, _, _ => Nat.zero_le _
 | a :: l, M, hn, hs => by
  rw [List.nodup_cons] at hn
  have ha := hs a List.mem_cons_self
  have h1 := nodup_sub_len (M := M.erase a) hn.2 (fun x hx => (List.mem_erase_of_ne (fun e => hn.1 (by rw [← e]; exact hx))).mpr (hs x (List.mem_cons_of_mem _ hx)))
  have h2 := List.length_erase_of_mem ha
  have h3 := List.length_pos_of_mem ha
  rw [List.length_cons]
  omega
def orbW (f : Nat → Nat) : Nat → List Nat → List Nat → Nat → List Nat × List Nat
 | 0, met, own, _ => (met, own)
 | k + 1, met, own, x => if x ∈ met then (met, own) else orbW f k (met ++ [x]) (own ++ [x]) (f x)
def cycF (f : Nat → Nat) (N : Nat) : List Nat → List Nat → List (List Nat)
 | [], _ => []
 | x :: l, met => if x ∈ met then cycF f N l met else (orbW f N met [] x).2 :: cycF f N l (orbW f N met [] x).1
def InL (L met : List Nat) : Prop := met.Nodup ∧ ∀ y ∈ met, y ∈ L
theorem InL.snoc {L met : List Nat} {x : Nat} (h : InL L met) (hx : x ∈ L) (hn : x ∉ met) : InL L (met ++ [x]) := by
 refine ⟨List.nodup_append.mpr ⟨h.1, by simp, ?_⟩, fun y hy => ?_⟩
 ·
  intro a ha b hb e
  rw [List.mem_singleton] at hb
  subst hb e
  exact hn ha
 ·
  rcases List.mem_append.mp hy with hy | hy
  ·
   exact h.2 y hy
  ·
   rw [List.mem_singleton] at hy; subst hy; exact hx
theorem orbW_in {L : List Nat} {f : Nat → Nat} (hf : ∀ s ∈ L, f s ∈ L) : ∀ (k : Nat) (met own : List Nat) (x : Nat), InL L met → x ∈ L → InL L (orbW f k met own x).1
 | 0, met, own, x, h, hx => h
 | k + 1, met, own, x, h, hx => by
  unfold orbW
  split
  ·
   exact h
  ·
   rename_i hn
   exact orbW_in hf k _ _ _ (h.snoc hx hn) (hf x hx)
theorem contains_toI {met : List Nat} {x : Nat} : ((toI met).contains (x : Int) = true) ↔ x ∈ met := by
 rw [List.contains_iff_mem]
 unfold toI
 rw [List.mem_map]
 constructor
 ·
  rintro ⟨y, hy, e⟩
  have : y = x := by omega
  subst this
  exact hy
 ·
  intro h; exact ⟨x, h, rfl⟩
theorem wf_nat {x : Nat} (h : x ≤ 1000000) : (Lit.int .i64 (x : Int)).wf = true := WalkArith.wf_i64 (by omega)
theorem implOwn {L : List Nat} {f : Nat → Nat} {m : Int → Option Int} (hm : ∀ s ∈ L, m (s : Int) = some ((f s : Nat) : Int)) (hf : ∀ s ∈ L, f s ∈ L) (hL : L.length ≤ 10000) (hb : ∀ s ∈ L, s ≤ 1000000) : ∀ (k j : Nat) (met own : List Nat) (x : Nat), InL L met → x ∈ L → L.length < met.length + k → L.length < met.length + j → own.length ≤ met.length →
  impl_cycles_int.own k m (toI met) (toI own) (x : Int) = some (toI (orbW f j met own x).1, toI (orbW f j met own x).2)
 | 0, j, met, own, x, h, hx, h1, h2, ho => absurd (nodup_sub_len h.1 h.2) (by omega)
 | k + 1, 0, met, own, x, h, hx, h1, h2, ho => absurd (nodup_sub_len h.1 h.2) (by omega)
 | k + 1, j + 1, met, own, x, h, hx, h1, h2, ho => by
  have hlen := nodup_sub_len h.1 h.2
  rw [impl_cycles_int.own, orbW, if_pos (wf_nat (hb x hx))]
  by_cases c : x ∈ met
  ·
   rw [if_pos c, if_pos (contains_toI.mpr c)]
  ·
   rw [if_neg c, if_neg (fun e => c (contains_toI.mp e)), if_pos (by rw [toI_len]; omega), if_pos (by rw [toI_len]; omega), hm x hx, Option.bind_some, ← toI_one, ← toI_app, ← toI_app]
   refine implOwn hm hf hL hb k j _ _ _ (h.snoc hx c) (hf x hx) ?_ ?_ ?_ <;> simp only [List.length_append, List.length_singleton] <;> omega
theorem implGo {L : List Nat} {f : Nat → Nat} {m : Int → Option Int} (hm : ∀ s ∈ L, m (s : Int) = some ((f s : Nat) : Int)) (hf : ∀ s ∈ L, f s ∈ L) (hL : L.length ≤ 10000) (hb : ∀ s ∈ L, s ≤ 1000000) (k : Nat) (hk : L.length < k) : ∀ (l met : List Nat) (out : List (List Int)), (∀ x ∈ l, x ∈ L) → InL L met → out.length + l.length ≤ 20000 →
  impl_cycles_int.go k m (toI l) (toI met) out = some (out ++ (cycF f (L.length + 1) l met).map toI)
 | [], met, out, hl, h, ho => by
  show some out = _
  rw [cycF, List.map_nil, List.append_nil]
 | x :: l, met, out, hl, h, ho => by
  have hx := hl x List.mem_cons_self
  rw [List.length_cons] at ho
  show impl_cycles_int.go k m ((x : Int) :: toI l) (toI met) out = _
  rw [impl_cycles_int.go, cycF, if_pos (wf_nat (hb x hx))]
  by_cases c : x ∈ met
  ·
   rw [if_pos c, if_pos (contains_toI.mpr c)]
   exact implGo hm hf hL hb k hk l met out (fun y hy => hl y (List.mem_cons_of_mem _ hy)) h (by omega)
  ·
   rw [if_neg c, if_neg (fun e => c (contains_toI.mp e)), show ([] : List Int) = toI [] from rfl, implOwn hm hf hL hb k (L.length + 1) met [] x h hx (by omega) (by omega) (Nat.zero_le _), Option.bind_some]
   show (if out.length < 5864062014805 then _ else _) = _
   rw [if_pos (by omega), implGo hm hf hL hb k hk l _ _ (fun y hy => hl y (List.mem_cons_of_mem _ hy)) (orbW_in hf _ _ _ _ h hx) (by rw [List.length_append, List.length_singleton]; omega), List.append_assoc]
   rfl
theorem implCycles_ev {L : List Nat} {f : Nat → Nat} {M : Nat → Int → Option Int} (hM : ∀ s ∈ L, Ev (fun k => M k (s : Int)) ((f s : Nat) : Int)) (hf : ∀ s ∈ L, f s ∈ L) (hL : L.length ≤ 10000) (hb : ∀ s ∈ L, s ≤ 1000000) :
  Ev (fun k => impl_cycles_int.f k (fun x => M k x) (toI L)) ((cycF f (L.length + 1) L []).map toI) := by
 obtain ⟨K, hK⟩ := ev_all (f := fun k (s : Nat) => M k (s : Int)) (r := fun s => ((f s : Nat) : Int)) L hM
 refine ⟨max K (L.length + 1), fun k hk => ?_⟩
 have := implGo (m := fun x => M k x) (fun s hs => hK k (by omega) s hs) hf hL hb k (by omega) L [] [] (fun x hx => hx) ⟨List.Pairwise.nil, fun y hy => absurd hy (by simp)⟩ (by simp; omega)
 rw [List.nil_append] at this
 exact this
theorem lengths_l0 (rows : List (List Int)) (hl : rows.length ≤ 100000) : ∀ (d i : Nat) (acc : List Int), i + d = rows.length → acc.length = i →
  Ev (fun k => impl_lengths_int.l0 k acc rows (rows.length : Int) (i : Int)) (acc ++ (rows.drop i).map (fun r => (r.length : Int)))
 | 0, i, acc, h, ha => by
  refine Ev.step (fun _ => impl_lengths_int.l0.eq_2 ..) (ev_neg (by omega) ?_)
  rw [List.drop_of_length_le (by omega), List.map_nil, List.append_nil]
  exact Ev.now _
 | d + 1, i, acc, h, ha => by
  have hi : i < rows.length := by omega
  refine Ev.step (fun _ => impl_lengths_int.l0.eq_2 ..) (ev_pos (by omega) (ev_pos (by omega) (ev_pos (by omega) (ev_pos (by omega) ?_))))
  have e : rd_L1 rows (i : Int) = rows[i] := by unfold rd_L1; simp [List.getD_eq_getElem?_getD, hi]
  rw [e, List.drop_eq_getElem_cons hi, List.map_cons, wrap_succ (by omega)]
  have := lengths_l0 rows hl d (i + 1) (acc ++ [(rows[i].length : Int)]) (by omega) (by rw [List.length_append, List.length_singleton]; omega)
  rw [List.append_assoc] at this
  exact this
theorem lengths_ev (rows : List (List Int)) (hl : rows.length ≤ 100000) : Ev (fun k => impl_lengths_int.f k rows) (rows.map (fun r => (r.length : Int))) := by
 have := lengths_l0 rows hl rows.length 0 [] (by omega) rfl
 rw [List.drop_zero, List.nil_append] at this
 exact this
theorem cycF_len {f : Nat → Nat} {N : Nat} : ∀ (l met : List Nat), (cycF f N l met).length ≤ l.length
 | [], met => Nat.le_refl _
 | x :: l, met => by
  unfold cycF
  split
  ·
   have := cycF_len (f := f) (N := N) l met; rw [List.length_cons]; omega
  ·
   have := cycF_len (f := f) (N := N) l (orbW f N met [] x).1; rw [List.length_cons, List.length_cons]; omega
def lens (c : List (List Nat)) : List Int := c.map fun o => (o.length : Int)
theorem lens_toI (c : List (List Nat)) : (c.map toI).map (fun r => (r.length : Int)) = lens c := by
 unfold lens
 rw [List.map_map]
 refine List.map_congr_left fun o _ => ?_
 show ((toI o).length : Int) = _
 rw [toI_len]
end Go.Proofs.Ytpdgiinedbdamaa.M
end
section
namespace Go.Proofs.Ytpdgiinedbdamaa.M
open Go.RowKit Go.Proofs.YtpdgiinedbdamaaW.PrintWords Go.Proofs.YtpdgiinedbdamaaW.PrintLast Go.Proofs.YtpdgiinedbdamaaW.PrintMore Go.Proofs.Ytpdgiinedbdamaa.L
set_option linter.unusedVariables false
theorem sorted_unique : ∀ {l r : List Int}, l.Pairwise (· ≤ ·) → r.Pairwise (· ≤ ·) → l.Perm r → l = r
 | [], r, _, _, hp => hp.nil_eq
 | a :: l, [], _, _, hp => absurd hp.symm.nil_eq (by simp)
 | a :: l, b :: r, hl, hr, hp => by
  rw [List.pairwise_cons] at hl hr
  have h1 : a ∈ b :: r := hp.mem_iff.mp List.mem_cons_self
  have h2 : b ∈ a :: l := hp.mem_iff.mpr List.mem_cons_self
  have e : a = b := by
   rcases List.mem_cons.mp h1 with e | h1
   ·
    exact e
   ·
    rcases List.mem_cons.mp h2 with e | h2
    ·
     exact e.symm
    ·
     have := hl.1 b h2
     have := hr.1 a h1
     omega
  subst e
  rw [sorted_unique hl.2 hr.2 (List.Perm.cons_inv hp)]
theorem sort_sorted (l : List Int) : (impl_sorted.sort l).Pairwise (· ≤ ·) := by
 unfold impl_sorted.sort
 have h := List.pairwise_mergeSort (le := fun x y : Int => decide (x ≤ y)) (fun a b c h1 h2 => by rw [decide_eq_true_eq] at h1 h2 ⊢; omega) (fun a b => by rw [Bool.or_eq_true, decide_eq_true_eq, decide_eq_true_eq]; omega) l
 exact h.imp (fun h => by rwa [decide_eq_true_eq] at h)
theorem sort_perm (l : List Int) : (impl_sorted.sort l).Perm l := List.mergeSort_perm l _
theorem sort_eq {l r : List Int} (hs : r.Pairwise (· ≤ ·)) (hp : r.Perm l) : impl_sorted.sort l = r := sorted_unique (sort_sorted l) hs ((sort_perm l).trans hp.symm)
theorem sorted_eq {l : List Int} (h : l.length ≤ 100000) : impl_sorted.f l = some (impl_sorted.sort l) := if_pos (by omega)
end Go.Proofs.Ytpdgiinedbdamaa.M
end
section
namespace Go.Proofs.Ytpdgiinedbdamaa.L
open Go.RowKit Go.Proofs.YtpdgiinedbdamaaW.PrintWords Go.Proofs.YtpdgiinedbdamaaW.PrintLast Go.Proofs.YtpdgiinedbdamaaW.PrintMore
attribute [local go_sem] max2_int min2_int max_two min_two max_three min_three max_four min_four
set_option linter.unusedVariables false
set_option linter.unusedSimpArgs false
def slices_Reverse_int_int.l0 : Nat → List Int → Int → Int → Option (List Int)
 | 0, _, _, _ => none
 | k + 1, x0, x2, x3 => if x2 < x3 then (if 0 ≤ x3 then (if x3 < (x0.length : Int) then (if 0 ≤ x2 then (if x2 < (x0.length : Int) then (slices_Reverse_int_int.l0 k ((x0.set (x2 : Int).toNat (rd x0 x3)).set (x3 : Int).toNat (rd x0 x2)) (wrap64 (x2 + 1)) (wrap64 (x3 - 1))) else (none)) else (none)) else (none)) else (none)) else (some x0)
def slices_Reverse_int_int.f (k : Nat) (l0 : List Int) : Option (List Int) := slices_Reverse_int_int.l0 k l0 0 (wrap64 ((l0.length : Int) - 1))
theorem slices_Reverse_int_int.mono_l : ∀ k, (∀ y0 y1 y2, LeO (slices_Reverse_int_int.l0 k y0 y1 y2) (slices_Reverse_int_int.l0 (k + 1) y0 y1 y2))
 | 0 => fun _ _ _ r h => by simp [slices_Reverse_int_int.l0] at h
 | k + 1 => by
  have ih0 := slices_Reverse_int_int.mono_l k
  ·
   intro y0 y1 y2
   unfold slices_Reverse_int_int.l0
   repeat' first
   | (with_reducible exact ih0 _ _ _)
   | (with_reducible exact LeO.refl _)
   | (with_reducible exact LeO.none _)
   | (with_reducible refine LeO.ite ?_ ?_)
   | (with_reducible refine LeO.bind ?_ (fun _ => ?_))
   | exact ih0 _ _ _
   | exact LeO.none _
   | refine LeO.ite ?_ ?_
   | refine LeO.bind ?_ (fun _ => ?_)
theorem slices_Reverse_int_int.mono : ∀ a0 k, LeO (slices_Reverse_int_int.f k a0) (slices_Reverse_int_int.f (k + 1) a0) := by
 intro a0 k
 have ih0 := slices_Reverse_int_int.mono_l k
 unfold slices_Reverse_int_int.f
 repeat' first
   | (with_reducible exact ih0 _ _ _)
   | (with_reducible exact LeO.refl _)
   | (with_reducible exact LeO.none _)
   | (with_reducible refine LeO.ite ?_ ?_)
   | (with_reducible refine LeO.bind ?_ (fun _ => ?_))
   | exact ih0 _ _ _
   | exact LeO.none _
   | refine LeO.ite ?_ ?_
   | refine LeO.bind ?_ (fun _ => ?_)
def slices_Reverse_int_int.T3 : Bool × List (List Nat × List Nat) := (true, [([], []), ([], []), ([], []), ([], []), ([], []), ([], []), ([4, 5], [4, 5]), ([6], [6]), ([], []), ([], []), ([8, 9], [8, 9]), ([10], [10]), ([0, 1, 0, 1, 4, 5, 6, 7, 11], [0, 1]), ([12, 7, 0, 1, 4, 5, 6, 7, 11], [7, 12]), ([2, 3, 0, 1, 2, 3, 4, 5, 6, 7, 8, 9, 10, 11, 12, 13], [2, 3]), ([14, 11, 13, 0, 1, 2, 3, 4, 5, 6, 7, 8, 9, 10, 11, 12, 13], [11, 14])])
def slices_Reverse_int_int.B3 : List Nat := [0, 0, 0, 0, 0, 0, 48, 112, 0, 0, 768, 1792, 4083, 8179, 16383, 32767]
theorem slices_Reverse_int_int.tab3 : rtab .any (opsOf Try.f112 3) = slices_Reverse_int_int.T3 := by kernel_rfl
theorem slices_Reverse_int_int.bits3 : waitsOk slices_Reverse_int_int.T3.2 slices_Reverse_int_int.B3 = true := by kernel_rfl
set_option maxHeartbeats 8000000 in
set_option maxRecDepth 100000 in
theorem slices_Reverse_int_int.calls (k : Nat) (P0_ : Nat → Prop) (u9000_ : Value) (l0 : List Int) (r : List Int) (w0 w : World) (hB : Below w0.heap.size w0 w) (ho0 : Kd.R (Kd.int .i64) 3 w w0.heap.size P0_ u9000_ l0) (h : slices_Reverse_int_int.f k l0 = some r) :
  Calls Try.prog 112 #[u9000_] w fun e w' => e = .returned (.tuple #[]) ∧ Kd.R (Kd.int .i64) 3 w' w0.heap.size (fun k_ => (P0_ k_ ∨ w.heap.size ≤ k_)) u9000_ r ∧ Below w0.heap.size w0 w' ∧ Kept w w' (fun k_ => P0_ k_) := by
 have HO0 := Aside0.mk (show Kd.R (Kd.int .i64) 3 w w0.heap.size (fun k_ => (P0_ k_ ∨ w.heap.size ≤ k_)) u9000_ l0 from Kd.R_mono ho0 (fun k_ hk => (.inl hk)))
 have HK := Aside0.mk (Kept.refl w (fun k_ => P0_ k_))
 have HW0 := Aside0.mk hB.size
 have HB := Aside0.mk hB
 clear hB
 have H : (slices_Reverse_int_int.l0 k l0 0 (wrap64 ((l0.length : Int) - 1))) = some r := h
 clear h
 have H' := Aside0.mk H
 clear H
 obtain ⟨Ao2, co2, eo2⟩ := Kd.R_slice HO0.out
 subst eo2
 go_enter Try.func112, Try.ntmps112
 go_wp2
 go_loopg [2, 3] k (fun kq v2 v3 w' => ∃ (x0_1 : List Int) (x2_1 : Int) (x3_1 : Int), v2 = .int .i64 x2_1 ∧ v3 = .int .i64 x3_1 ∧ Aside0 (slices_Reverse_int_int.l0 kq x0_1 x2_1 x3_1 = some r) ∧ Aside0 (kq ≤ k) ∧ Aside0 (Kd.R (Kd.int .i64) 3 w' w0.heap.size (fun k_ => (P0_ k_ ∨ w.heap.size ≤ k_)) (.slice Ao2 l0.length co2) x0_1) ∧ Aside0 (Kept w w' (fun k_ => P0_ k_)) ∧ Aside0 (Below w0.heap.size w0 w'))
 case atStart => exact ⟨(l0), (0), (wrap64 ((l0.length : Int) - 1)), (by first | rfl | (simp; done) | (simp [*]; done)), (by first | rfl | (simp; done) | (simp [*]; done)), H', ⟨Nat.le_refl _⟩, ⟨by (with_reducible repeat (first | apply Kd.R_alloc | apply Kd.R_drewN | apply Kd.R_drew)); exact HO0.out⟩, ⟨by repeat (first | (with_reducible first | exact HK.out | apply Kept.alloc | apply Kept.drewN | apply Kept.drew) | exact HK.out)⟩, ⟨by repeat (first | (with_reducible first | exact HB.out | apply below_alloc | apply pw_below_drewN | apply below_drew1) | exact HB.out)⟩⟩
 case round =>
  clear H'
  try clear c1
  try clear p2
  obtain ⟨x0_1, x2_1, x3_1, rfl, rfl, HA, HK1, HO_0, HK, HB⟩ := hrel
  have hl0_1 := (Kd.R_reads' HO_0.out).1
  rw [hl0_1] at HO_0
  (try simp only [hl0_1])
  cases gk with
  | zero => exact absurd HA.out (by simp [slices_Reverse_int_int.l0])
  | succ k1 =>
   have H := HA.out
   clear HA
   simp only [slices_Reverse_int_int.l0] at H
   by_cases c3 : x2_1 < x3_1
   ·
    rw [if_pos c3] at H
    have c3b0 : decide (x2_1 < x3_1) = true := decide_eq_true c3
    clear c3
    by_cases c4 : 0 ≤ x3_1
    ·
     rw [if_pos c4] at H
     have c4b0 : decide (0 ≤ x3_1) = true := decide_eq_true c4
     clear c4
     by_cases c5 : x3_1 < (x0_1.length : Int)
     ·
      rw [if_pos c5] at H
      have c5b0 : decide (x3_1 < (x0_1.length : Int)) = true := decide_eq_true c5
      clear c5
      by_cases c6 : 0 ≤ x2_1
      ·
       rw [if_pos c6] at H
       have c6b0 : decide (0 ≤ x2_1) = true := decide_eq_true c6
       clear c6
       by_cases c7 : x2_1 < (x0_1.length : Int)
       ·
        rw [if_pos c7] at H
        have c7b0 : decide (x2_1 < (x0_1.length : Int)) = true := decide_eq_true c7
        clear c7
        obtain ⟨y420, hy420⟩ : ∃ y_ : List Int, y_ = (x0_1.set (x2_1 : Int).toNat (rd x0_1 x3_1)) := ⟨_, rfl⟩
        replace H : (slices_Reverse_int_int.l0 k1 (y420.set (x3_1 : Int).toNat (rd x0_1 x2_1)) (wrap64 (x2_1 + 1)) (wrap64 (x3_1 - 1))) = some r := by first | (rw [hy420]; with_reducible exact H) | (have H2_ := (Option.bind_some _ _).symm.trans H; rw [hy420]; with_reducible exact H2_) | (have H2_ := (Option.bind_some _ _).symm.trans H; with_reducible exact H2_) | with_reducible exact H | (rw [hy420]; exact H) | exact H
        have Ny420 := Aside0.mk hy420
        clear hy420
        obtain ⟨y421, hy421⟩ : ∃ y_ : List Int, y_ = (y420.set (x3_1 : Int).toNat (rd x0_1 x2_1)) := ⟨_, rfl⟩
        replace H : (slices_Reverse_int_int.l0 k1 y421 (wrap64 (x2_1 + 1)) (wrap64 (x3_1 - 1))) = some r := by first | (rw [hy421]; with_reducible exact H) | (have H2_ := (Option.bind_some _ _).symm.trans H; rw [hy421]; with_reducible exact H2_) | (have H2_ := (Option.bind_some _ _).symm.trans H; with_reducible exact H2_) | with_reducible exact H | (rw [hy421]; exact H) | exact H
        have Ny421 := Aside0.mk hy421
        clear hy421
        have H' := Aside0.mk H
        clear H
        try go_wp2
        have n0_ := Aside0.mk (Kd.R_drew HO_0.out)
        have n1_ := Aside0.mk (Kept.drew HK.out)
        have n2_ := Aside0.mk (below_drew1 HB.out)
        clear HO_0
        clear HK
        clear HB
        have HO_0 := n0_
        have HK := n1_
        have HB := n2_
        clear n0_ n1_ n2_
        have p418 : 0 ≤ (x3_1 : Int) := of_decide_eq_true (by first | (with_reducible assumption) | assumption)
        have q418 : x3_1 < (x0_1.length : Int) := of_decide_eq_true (by first | (with_reducible assumption) | assumption)
        obtain ⟨ad418, e418, hx418_0⟩ := Kd.at_int (Kd.R_reads' HO_0.out).2.2 x3_1 p418 q418
        cases e418
        replace p418 := eq_true p418
        replace q418 := eq_true q418
        have p419 : 0 ≤ (x2_1 : Int) := of_decide_eq_true (by first | (with_reducible assumption) | assumption)
        have q419 : x2_1 < (x0_1.length : Int) := of_decide_eq_true (by first | (with_reducible assumption) | assumption)
        obtain ⟨ad419, e419, hx419_0⟩ := Kd.at_int (Kd.R_reads' HO_0.out).2.2 x2_1 p419 q419
        obtain rfl : ad418 = ad419 := (by injection e419)
        replace p419 := eq_true p419
        replace q419 := eq_true q419
        have p8 : 0 ≤ (x2_1 : Int) := of_decide_eq_true (by first | (with_reducible assumption) | assumption)
        have q8 : (x2_1 : Int) < ((x0_1.length : Int) : Int) := of_decide_eq_true (by first | (with_reducible assumption) | assumption)
        obtain ⟨go8, co8, eo8, gb8, gl8, cl8, HG8⟩ := Kd.R_form HO_0.out (by omega)
        (first | cases eo8 | (injection eo8 with ea_ en_ ec_; (first | subst ea_ | (injection ea_ with ea_; subst ea_)); subst ec_; clear en_))
        have GB8 := Aside0.mk gb8
        have GG8 := Aside0.mk HG8
        clear gb8 gl8 HG8
        have HMgo8 := Aside0.mk (show (P0_ go8 ∨ w.heap.size ≤ go8) from (HO_0.out.1 _ rfl))
        (first | simp only [add_plain] at hx418_0 | skip)
        (first | simp only [add_plain] at hx419_0 | skip)
        obtain ⟨hx8_0, hf8_0⟩ := Kd.R_celln 0 HO_0.out (x2_1 : Int) p8 q8
        replace p8 := eq_true p8
        replace q8 := eq_true q8
        have HP11 := Kd.R_putn HO_0.out (x2_1 : Int) (rd x0_1 x3_1)
        rw [← Ny420.out] at HP11
        have HQ11 := Aside0.mk HP11
        clear HP11
        have p9 : 0 ≤ (x3_1 : Int) := of_decide_eq_true (by first | (with_reducible assumption) | assumption)
        have q9 : (x3_1 : Int) < ((x0_1.length : Int) : Int) := of_decide_eq_true (by first | (with_reducible assumption) | assumption)
        obtain ⟨hx9_0, hf9_0⟩ := Kd.R_celln 0 HQ11.out (x3_1 : Int) p9 q9
        replace p9 := eq_true p9
        replace q9 := eq_true q9
        have HP12 := Kd.R_putn HQ11.out (x3_1 : Int) (rd x0_1 x2_1)
        rw [← Ny421.out] at HP12
        have HQ12 := Aside0.mk HP12
        clear HP12
        refine start_ (n := 16) (S := fun w' => w'.cell? ⟨go8, (x3_1).toNat, none⟩ = some (.int .i64 (rd x0_1 x3_1)) ∧ w'.cell? ⟨go8, (x2_1).toNat, none⟩ = some (.int .i64 (rd x0_1 x2_1))) (ds := [13, 15]) #[false, false, false, false, false, false, false, false, false, false, false, false, false, false, false, false] (by kernel_rfl) rfl rfl ⟨hx418_0, hx419_0⟩ (fun hHeld => ?_); refine with_tabW slices_Reverse_int_int.tab3 slices_Reverse_int_int.bits3 (fun HT_ HW_ => ?_)
        generalize wr.drew = w10 at HO_0 HK HB GG8 HQ11 HQ12 hf8_0 hf9_0 hx418_0 hx419_0 hx8_0 hx9_0 hHeld ⊢
        refine pure_ (i := 0) (N := some 14) (v := ?_) (a' := ?_) #[true, false, false, false, false, false, false, false, false, false, false, false, false, false, false, false] rfl rfl (any_of HT_.out (by kernel_rfl)) (fun _ _ _ h => h) (Or.inl ⟨by rfl, ?_⟩) ?_ ?_
        rotate_left
        ·
         intro w'
         go_simp
         with_reducible rfl
        rotate_left
        ·
         simp only [Act.put, List.setIfInBounds_toArray, List.set_cons_zero, List.set_cons_succ, i64_w, i32_w]
         rfl
        refine pure_ (i := 1) (N := some 15) (v := ?_) (a' := ?_) #[true, true, false, false, false, false, false, false, false, false, false, false, false, false, false, false] rfl rfl (any_of HT_.out (by kernel_rfl)) (fun _ _ _ h => h) (Or.inl ⟨by rfl, ?_⟩) ?_ ?_
        rotate_left
        ·
         intro w'
         go_simp
         with_reducible rfl
        rotate_left
        ·
         simp only [Act.put, List.setIfInBounds_toArray, List.set_cons_zero, List.set_cons_succ, i64_w, i32_w]
         rfl
        refine pure_ (i := 2) (N := some 16) (v := ?_) (a' := ?_) #[true, true, true, false, false, false, false, false, false, false, false, false, false, false, false, false] rfl rfl (any_of HT_.out (by kernel_rfl)) (fun _ _ _ h => h) (Or.inl ⟨by rfl, ?_⟩) ?_ ?_
        rotate_left
        ·
         intro w'
         go_simp
         with_reducible rfl
        rotate_left
        ·
         simp only [Act.put, List.setIfInBounds_toArray, List.set_cons_zero, List.set_cons_succ, i64_w, i32_w]
         rfl
        refine pure_ (i := 3) (N := some 17) (v := ?_) (a' := ?_) #[true, true, true, true, false, false, false, false, false, false, false, false, false, false, false, false] rfl rfl (any_of HT_.out (by kernel_rfl)) (fun _ _ _ h => h) (Or.inl ⟨by rfl, ?_⟩) ?_ ?_
        rotate_left
        ·
         intro w'
         go_simp
         with_reducible rfl
        rotate_left
        ·
         simp only [Act.put, List.setIfInBounds_toArray, List.set_cons_zero, List.set_cons_succ, i64_w, i32_w]
         rfl
        refine pure_ (i := 4) (N := some 18) (v := ?_) (a' := ?_) #[true, true, true, true, true, false, false, false, false, false, false, false, false, false, false, false] rfl rfl (any_of HT_.out (by kernel_rfl)) (fun _ _ _ h => h) (Or.inl ⟨by rfl, ?_⟩) ?_ ?_
        rotate_left
        ·
         intro w'
         go_simp
         with_reducible rfl
        rotate_left
        ·
         simp only [Act.put, List.setIfInBounds_toArray, List.set_cons_zero, List.set_cons_succ, i64_w, i32_w]
         rfl
        refine pure_ (i := 5) (N := some 19) (v := ?_) (a' := ?_) #[true, true, true, true, true, true, false, false, false, false, false, false, false, false, false, false] rfl rfl (any_of HT_.out (by kernel_rfl)) (fun _ _ _ h => h) (Or.inl ⟨by rfl, ?_⟩) ?_ ?_
        rotate_left
        ·
         intro w'
         go_simp
         with_reducible rfl
        rotate_left
        ·
         simp only [Act.put, List.setIfInBounds_toArray, List.set_cons_zero, List.set_cons_succ, i64_w, i32_w]
         rfl
        refine pure_ (i := 6) (N := some 20) (v := ?_) (a' := ?_) #[true, true, true, true, true, true, true, false, false, false, false, false, false, false, false, false] rfl rfl (any_of HT_.out (by kernel_rfl)) (fun _ _ _ h => h) (Or.inl ⟨by rfl, ?_⟩) ?_ ?_
        rotate_left
        ·
         intro w'
         go_simp
         with_reducible rfl
        rotate_left
        ·
         simp only [Act.put, List.setIfInBounds_toArray, List.set_cons_zero, List.set_cons_succ, i64_w, i32_w]
         rfl
        refine pure_ (i := 8) (N := some 22) (v := ?_) (a' := ?_) #[true, true, true, true, true, true, true, false, true, false, false, false, false, false, false, false] rfl rfl (any_of HT_.out (by kernel_rfl)) (fun _ _ _ h => h) (Or.inl ⟨by rfl, ?_⟩) ?_ ?_
        rotate_left
        ·
         intro w'
         go_simp
         with_reducible rfl
        rotate_left
        ·
         simp only [Act.put, List.setIfInBounds_toArray, List.set_cons_zero, List.set_cons_succ, i64_w, i32_w]
         rfl
        refine pure_ (i := 9) (N := some 23) (v := ?_) (a' := ?_) #[true, true, true, true, true, true, true, false, true, true, false, false, false, false, false, false] rfl rfl (any_of HT_.out (by kernel_rfl)) (fun _ _ _ h => h) (Or.inl ⟨by rfl, ?_⟩) ?_ ?_
        rotate_left
        ·
         intro w'
         go_simp
         with_reducible rfl
        rotate_left
        ·
         simp only [Act.put, List.setIfInBounds_toArray, List.set_cons_zero, List.set_cons_succ, i64_w, i32_w]
         rfl
        refine pure_ (i := 10) (N := some 24) (v := ?_) (a' := ?_) #[true, true, true, true, true, true, true, false, true, true, true, false, false, false, false, false] rfl rfl (any_of HT_.out (by kernel_rfl)) (fun _ _ _ h => h) (Or.inl ⟨by rfl, ?_⟩) ?_ ?_
        rotate_left
        ·
         intro w'
         go_simp
         with_reducible rfl
        rotate_left
        ·
         simp only [Act.put, List.setIfInBounds_toArray, List.set_cons_zero, List.set_cons_succ, i64_w, i32_w]
         rfl
        refine take_ (i := 7) (N := some 21) (v := ?_) (a' := ?_) #[true, true, true, true, true, true, true, true, true, true, true, false, false, false, false, false] rfl rfl (take_ofW HT_.out HW_.out (by kernel_rfl)) (fun _ _ _ h => h) (Or.inl ⟨by rfl, ?_⟩) hHeld ?_ ?_
        rotate_left
        ·
         rintro w' ⟨s0, s1⟩
         go_simp
         with_reducible rfl
        rotate_left
        ·
         simp only [Act.put, List.setIfInBounds_toArray, List.set_cons_zero, List.set_cons_succ, i64_w, i32_w]
         rfl
        refine take_ (i := 11) (N := some 25) (v := ?_) (a' := ?_) #[true, true, true, true, true, true, true, true, true, true, true, true, false, false, false, false] rfl rfl (take_ofW HT_.out HW_.out (by kernel_rfl)) (fun _ _ _ h => h) (Or.inl ⟨by rfl, ?_⟩) hHeld ?_ ?_
        rotate_left
        ·
         rintro w' ⟨s0, s1⟩
         go_simp
         with_reducible rfl
        rotate_left
        ·
         simp only [Act.put, List.setIfInBounds_toArray, List.set_cons_zero, List.set_cons_succ, i64_w, i32_w]
         rfl
        refine pure_ (i := 12) (N := some 26) (v := ?_) (a' := ?_) #[true, true, true, true, true, true, true, true, true, true, true, true, true, false, false, false] rfl rfl (any_of HT_.out (by kernel_rfl)) (fun _ _ _ h => h) (Or.inl ⟨by rfl, ?_⟩) ?_ ?_
        rotate_left
        ·
         intro w'
         go_simp
         with_reducible rfl
        rotate_left
        ·
         simp only [Act.put, List.setIfInBounds_toArray, List.set_cons_zero, List.set_cons_succ, i64_w, i32_w]
         rfl
        refine last_ (i := 13) (N := none) #[true, true, true, true, true, true, true, true, true, true, true, true, true, true, false, false] rfl rfl (one_of HT_.out (by kernel_rfl)) (by decide) (fun K hK => ?_)
        refine skip_ (w1 := ?_) (by rfl) rfl ?_ ?_
        rotate_left
        ·
         go_simp
         rfl
        refine hK.out _ _ ?_
        clear hK K
        refine pure_ (i := 14) (N := some 27) (v := ?_) (a' := ?_) #[true, true, true, true, true, true, true, true, true, true, true, true, true, true, true, false] rfl rfl (any_of HT_.out (by kernel_rfl)) (fun _ _ _ h => h) (Or.inl ⟨by rfl, ?_⟩) ?_ ?_
        rotate_left
        ·
         intro w'
         go_simp
         with_reducible rfl
        rotate_left
        ·
         simp only [Act.put, List.setIfInBounds_toArray, List.set_cons_zero, List.set_cons_succ, i64_w, i32_w]
         rfl
        refine last_ (i := 15) (N := none) #[true, true, true, true, true, true, true, true, true, true, true, true, true, true, true, true] rfl rfl (one_of HT_.out (by kernel_rfl)) (by decide) (fun K hK => ?_)
        refine skip_ (w1 := ?_) (by rfl) rfl ?_ ?_
        rotate_left
        ·
         go_simp
         rfl
        refine hK.out _ _ ?_
        clear hK K
        refine done_ (done_of HT_.out (by kernel_rfl)) ?_
        try go_wp2
        (try simp only [← hl0_1])
        go_roundg k1
        case measure => have := HK1.out; omega
        case rel => exact ⟨(y421), (wrap64 (x2_1 + 1)), (wrap64 (x3_1 - 1)), (by first | rfl | (simp; done) | (simp [*]; done)), (by first | rfl | (simp; done) | (simp [*]; done)), H', ⟨by have := HK1.out; omega⟩, ⟨by (try simp only [hl0_1]); (with_reducible repeat (first | apply Kd.R_alloc | apply Kd.R_drewN | apply Kd.R_drew)); exact HQ12.out⟩, ⟨by repeat (first | (with_reducible first | exact HK.out | apply Kept.alloc | apply Kept.drewN | apply Kept.drew | refine Kept.setCell ?_ HMgo8.out _ | refine Kept.setCell ?_ HMgo8.out _) | exact HK.out)⟩, ⟨by repeat (first | (with_reducible first | exact HB.out | apply below_alloc | apply pw_below_drewN | apply below_drew1 | refine below_set ?_ GB8.out | refine below_set ?_ GB8.out) | exact HB.out)⟩⟩
       ·
        rw [if_neg c7] at H
        exact absurd H (by simp)
      ·
       rw [if_neg c6] at H
       exact absurd H (by simp)
     ·
      rw [if_neg c5] at H
      exact absurd H (by simp)
    ·
     rw [if_neg c4] at H
     exact absurd H (by simp)
   ·
    rw [if_neg c3] at H
    have c3b0 : decide (x2_1 < x3_1) = false := decide_eq_false c3
    clear c3
    obtain rfl := Option.some.inj H
    go_wp2
    first | go_end0 | ((try simp only [Exit.inBlock, Exit.then]); refine bodyPost_ret (results_none rfl _ _ _) rfl ?_)
    exact ⟨by first | rfl | (simp [errW_none, errW_some] <;> rfl) | (simp [*, errW_none, errW_some] <;> rfl), (by first | exact (by (with_reducible repeat (first | apply Kd.R_alloc | apply Kd.R_drewN | apply Kd.R_drew)); exact HO_0.out) | (simp only [hl0_1]; exact (by (with_reducible repeat (first | apply Kd.R_alloc | apply Kd.R_drewN | apply Kd.R_drew)); exact HO_0.out))), by repeat (first | (with_reducible first | exact HB.out | apply below_alloc | apply pw_below_drewN | apply below_drew1) | exact HB.out), by repeat (first | (with_reducible first | exact HK.out | apply Kept.alloc | apply Kept.drewN | apply Kept.drew) | exact HK.out)⟩
end Go.Proofs.Ytpdgiinedbdamaa.L
end
section
namespace Go.Proofs.Ytpdgiinedbdamaa.L
open Go.RowKit Go.Proofs.YtpdgiinedbdamaaW.PrintWords Go.Proofs.YtpdgiinedbdamaaW.PrintLast Go.Proofs.YtpdgiinedbdamaaW.PrintMore
attribute [local go_sem] max2_int min2_int max_two min_two max_three min_three max_four min_four
set_option linter.unusedVariables false
set_option linter.unusedSimpArgs false
def impl_numbered.l0 : Nat → List Int → Int → Int → Option (List Int)
 | 0, _, _, _ => none
 | k + 1, x3, x6, x7 => if x7 < x6 then (if x3.length < 17592186044416 then (impl_numbered.l0 k (x3 ++ [x7]) x6 (wrap64 (x7 + 1))) else (none)) else (some x3)
def impl_numbered.f (k : Nat) (a0 : Int) : Option (List Int) := impl_numbered.l0 k (([] : List Int)) a0 0
theorem impl_numbered.mono_l : ∀ k, (∀ y0 y1 y2, LeO (impl_numbered.l0 k y0 y1 y2) (impl_numbered.l0 (k + 1) y0 y1 y2))
 | 0 => fun _ _ _ r h => by simp [impl_numbered.l0] at h
 | k + 1 => by
  have ih0 := impl_numbered.mono_l k
  ·
   intro y0 y1 y2
   unfold impl_numbered.l0
   repeat' first
   | (with_reducible exact ih0 _ _ _)
   | (with_reducible exact LeO.refl _)
   | (with_reducible exact LeO.none _)
   | (with_reducible refine LeO.ite ?_ ?_)
   | (with_reducible refine LeO.bind ?_ (fun _ => ?_))
   | exact ih0 _ _ _
   | exact LeO.none _
   | refine LeO.ite ?_ ?_
   | refine LeO.bind ?_ (fun _ => ?_)
theorem impl_numbered.mono : ∀ a0 k, LeO (impl_numbered.f k a0) (impl_numbered.f (k + 1) a0) := by
 intro a0 k
 have ih0 := impl_numbered.mono_l k
 unfold impl_numbered.f
 repeat' first
   | (with_reducible exact ih0 _ _ _)
   | (with_reducible exact LeO.refl _)
   | (with_reducible exact LeO.none _)
   | (with_reducible refine LeO.ite ?_ ?_)
   | (with_reducible refine LeO.bind ?_ (fun _ => ?_))
   | exact ih0 _ _ _
   | exact LeO.none _
   | refine LeO.ite ?_ ?_
   | refine LeO.bind ?_ (fun _ => ?_)
set_option maxHeartbeats 8000000 in
set_option maxRecDepth 100000 in
theorem impl_numbered.calls (k : Nat) (a0 : Int) (r : List Int) (w : World) (h : impl_numbered.f k a0 = some r) :
  Calls Try.prog 59 #[.int .i64 a0] w fun e w' => ∃ v0_ : Value, e = .returned (v0_) ∧ Kd.R (Kd.int .i64) 3 w' w.heap.size (fun _ => True) v0_ r ∧ Below w.heap.size w w' := by
 have HB := Aside0.mk (Below.refl w.heap.size w)
 have H : (impl_numbered.l0 k (([] : List Int)) a0 0) = some r := h
 clear h
 obtain ⟨y426, hy426⟩ : ∃ y_ : List Int, y_ = (([] : List Int)) := ⟨_, rfl⟩
 replace H : (impl_numbered.l0 k y426 a0 0) = some r := by first | (rw [hy426]; with_reducible exact H) | (have H2_ := (Option.bind_some _ _).symm.trans H; rw [hy426]; with_reducible exact H2_) | (have H2_ := (Option.bind_some _ _).symm.trans H; with_reducible exact H2_) | with_reducible exact H | (rw [hy426]; exact H) | exact H
 have Ny426 := Aside0.mk hy426
 clear hy426
 have H' := Aside0.mk H
 clear H
 go_enter Try.func59, Try.ntmps59
 go_wp2_with (first | ((with_reducible refine gate_dst (N := 5) rfl ?_); refine Kd.R_lit (Kd.int .i64) _ 3 ?hg (N := 5) ?hd (xs := ([] : List Int)) (inner := []) (ok := fun _ => True) (okp := fun _ => True) ?hr ?hp (fun _ hk => hk) trivial (Below.refl _ _) (Nat.le_refl _) (by simp) ?_; (case hd => rfl); (case hg => rfl); (case hr => first | (go_simp; done) | (go_simp; rfl)); (case hp => exact (Reps.none _ _)); intro v427 w2 ho3 hb hg_ hnew_; clear hg_ hnew_; (first | rw [← Ny426.out] at ho3 | (simp only [Int.reduceToNat] at ho3; rw [← Ny426.out] at ho3)); have n0_ := Aside0.mk (Kd.R_lower ho3 (below_size (by repeat (first | (with_reducible first | exact HB.out | apply below_alloc | apply pw_below_drewN | apply below_drew1) | exact HB.out)))); have n1_ := Aside0.mk (below_step (by repeat (first | (with_reducible first | exact HB.out | apply below_alloc | apply pw_below_drewN | apply below_drew1) | exact HB.out)) hb); clear HB; have HO428 := n0_; have HB := n1_; clear n0_ n1_; clear hb ho3))
 go_loopg [3, 7] k (fun kq v3 v7 w' => ∃ (x3_1 : List Int) (x7_1 : Int), v7 = .int .i64 x7_1 ∧ Aside0 (impl_numbered.l0 kq x3_1 a0 x7_1 = some r) ∧ Aside0 (kq ≤ k) ∧ Aside0 (Kd.R (Kd.int .i64) 3 w' w.heap.size (fun _ => True) v3 x3_1) ∧ Aside0 (Below w.heap.size w w'))
 case atStart => exact ⟨(y426), (0), (by first | rfl | (simp; done) | (simp [*]; done)), H', ⟨Nat.le_refl _⟩, ⟨by (with_reducible repeat (first | apply Kd.R_alloc | apply Kd.R_drewN | apply Kd.R_drew)); exact HO428.out⟩, ⟨by repeat (first | (with_reducible first | exact HB.out | apply below_alloc | apply pw_below_drewN | apply below_drew1) | exact HB.out)⟩⟩
 case round =>
  clear H'
  try clear p2
  obtain ⟨x3_1, x7_1, rfl, HA, HK1, HO_3, HB⟩ := hrel
  cases gk with
  | zero => exact absurd HA.out (by simp [impl_numbered.l0])
  | succ k1 =>
   have H := HA.out
   clear HA
   simp only [impl_numbered.l0] at H
   by_cases c4 : x7_1 < a0
   ·
    rw [if_pos c4] at H
    have c4b0 : decide (x7_1 < a0) = true := decide_eq_true c4
    clear c4
    by_cases c5 : x3_1.length < 17592186044416
    ·
     rw [if_pos c5] at H
     have LMc5 := Aside0.mk c5
     clear c5
     obtain ⟨y429, hy429⟩ : ∃ y_ : List Int, y_ = (x3_1 ++ [x7_1]) := ⟨_, rfl⟩
     replace H : (impl_numbered.l0 k1 y429 a0 (wrap64 (x7_1 + 1))) = some r := by first | (rw [hy429]; with_reducible exact H) | (have H2_ := (Option.bind_some _ _).symm.trans H; rw [hy429]; with_reducible exact H2_) | (have H2_ := (Option.bind_some _ _).symm.trans H; with_reducible exact H2_) | with_reducible exact H | (rw [hy429]; exact H) | exact H
     have Ny429 := Aside0.mk hy429
     clear hy429
     have H' := Aside0.mk H
     clear H
     go_wp2_with (first | ((with_reducible refine gate_builtin (b := .append) (xs := #[.tmp 10, .tmp 12]) rfl ?_); at_builtin; refine Kd.R_append (Kd.int .i64) (w0 := w) w.heap.size rfl (.tmp 10) (.tmp 12) 22 3 (.int .i64 0) 8 rfl Try.underlying22 info3 rfl (by decide) (by omega) u3 x3_1 x7_1 [.int .i64 x7_1] (fun _ => True) (fun _ => False) rfl rfl ?aP (fun _ hk => hk.elim) ?aF ?aO ?aB ?aS ?aL ?_; (case aP => exact rfl); (case aB => exact (by repeat (first | (with_reducible first | exact HB.out | apply below_alloc | apply pw_below_drewN | apply below_drew1) | exact HB.out))); (case aF => exact (fun _ _ => trivial)); (case aO => exact (by (with_reducible repeat (first | apply Kd.R_alloc | apply Kd.R_drewN | apply Kd.R_drew)); exact HO_3.out)); (case aS => exact (below_size (by repeat (first | (with_reducible first | exact HB.out | apply below_alloc | apply pw_below_drewN | apply below_drew1) | exact HB.out)))); (case aL => have := LMc5.out; omega); intro v430 w6 ho hb hg hat; rw [← Ny429.out] at ho; have n0_ := Aside0.mk (hb); have n1_ := Aside0.mk (ho); clear HB; clear HO_3; have HB := n0_; have HO431 := n1_; clear n0_ n1_; clear ho hb hg hat))
     go_roundg k1
     case measure => have := HK1.out; omega
     case rel => exact ⟨(y429), (wrap64 (x7_1 + 1)), (by first | rfl | (simp; done) | (simp [*]; done)), H', ⟨by have := HK1.out; omega⟩, ⟨by (with_reducible repeat (first | apply Kd.R_alloc | apply Kd.R_drewN | apply Kd.R_drew)); exact HO431.out⟩, ⟨by repeat (first | (with_reducible first | exact HB.out | apply below_alloc | apply pw_below_drewN | apply below_drew1) | exact HB.out)⟩⟩
    ·
     rw [if_neg c5] at H
     exact absurd H (by simp)
   ·
    rw [if_neg c4] at H
    have c4b0 : decide (x7_1 < a0) = false := decide_eq_false c4
    clear c4
    obtain rfl := Option.some.inj H
    go_wp2
    go_ret
    exact ⟨_, by first | rfl | (simp [errW_none, errW_some] <;> rfl) | (simp [*, errW_none, errW_some] <;> rfl), by (with_reducible repeat (first | apply Kd.R_alloc | apply Kd.R_drewN | apply Kd.R_drew)); exact HO_3.out, by repeat (first | (with_reducible first | exact HB.out | apply below_alloc | apply pw_below_drewN | apply below_drew1) | exact HB.out)⟩
end Go.Proofs.Ytpdgiinedbdamaa.L
end
section
namespace Go.Proofs.Ytpdgiinedbdamaa.M
open Go.RowKit Go.Proofs.YtpdgiinedbdamaaW.PrintWords Go.Proofs.YtpdgiinedbdamaaW.PrintLast Go.Proofs.YtpdgiinedbdamaaW.PrintMore Go.Proofs.Ytpdgiinedbdamaa.L
set_option linter.unusedVariables false
theorem l1Own_eq (l : List Int) (h : l.length < 17592186044416) : spec_l1Own.f l = some l := by
 unfold spec_l1Own.f; rw [Option.bind_some, if_pos (by simpa using h)]; rfl
end Go.Proofs.Ytpdgiinedbdamaa.M
end
section
namespace Go.Proofs.Ytpdgiinedbdamaa.L
open Go.RowKit Go.Proofs.YtpdgiinedbdamaaW.PrintWords Go.Proofs.YtpdgiinedbdamaaW.PrintLast Go.Proofs.YtpdgiinedbdamaaW.PrintMore
attribute [local go_sem] max2_int min2_int max_two min_two max_three min_three max_four min_four
set_option linter.unusedVariables false
set_option linter.unusedSimpArgs false
def spec_rvIn.f (k : Nat) (l0_0 : List Int) (a1 : Int) : Option (Bool) := (spec_rvGood.f k l0_0).bind fun t154 => (if t154 = true then ((spec_poSet.f l0_0 a1).bind fun t155 => (if t155 = true then ((spec_poIdeal.f k l0_0 a1).bind fun t156 => (some t156)) else (some false))) else (some false))
theorem spec_rvIn.mono : ∀ a0 a1 k, LeO (spec_rvIn.f k a0 a1) (spec_rvIn.f (k + 1) a0 a1) := by
 intro a0 a1 k
 unfold spec_rvIn.f
 repeat' first
   | (with_reducible exact spec_poIdeal.mono _ _ _)
   | (with_reducible exact spec_rvGood.mono _ _)
   | (with_reducible exact LeO.refl _)
   | (with_reducible exact LeO.none _)
   | (with_reducible refine LeO.ite ?_ ?_)
   | (with_reducible refine LeO.bind ?_ (fun _ => ?_))
   | exact spec_poIdeal.mono _ _ _
   | exact spec_rvGood.mono _ _
   | exact LeO.none _
   | refine LeO.ite ?_ ?_
   | refine LeO.bind ?_ (fun _ => ?_)
set_option maxHeartbeats 8000000 in
set_option maxRecDepth 100000 in
theorem spec_rvIn.calls (k : Nat) (A0_0 : Option Addr) (c0_0 : Nat) (l0_0 : List Int) (a1 : Int) (r : Bool) (w : World) (hr0_0 : Kd.C (Kd.int .i64) w A0_0 l0_0.length l0_0) (hc0_0 : l0_0.length ≤ c0_0) (h : spec_rvIn.f k l0_0 a1 = some r) :
  Calls Try.prog 48 #[.agg #[.slice A0_0 l0_0.length c0_0], .int .i64 a1] w fun e w' => e = .returned (.bool r) ∧ Below w.heap.size w w' := by
 have hu28 := Try.underlying28
 have HR0_0 := Aside0.mk hr0_0
 have HC0_0 := Aside0.mk hc0_0
 clear hr0_0 hc0_0
 have HB := Aside0.mk (Below.refl w.heap.size w)
 have H : ((spec_rvGood.f k l0_0).bind fun t154 => (if t154 = true then ((spec_poSet.f l0_0 a1).bind fun t155 => (if t155 = true then ((spec_poIdeal.f k l0_0 a1).bind fun t156 => (some t156)) else (some false))) else (some false))) = some r := h
 clear h
 replace H := Option.bind_eq_some_iff.mp H
 obtain ⟨t154, A30, H⟩ := H
 replace H : (if t154 = true then ((spec_poSet.f l0_0 a1).bind fun t155 => (if t155 = true then ((spec_poIdeal.f k l0_0 a1).bind fun t156 => (some t156)) else (some false))) else (some false)) = some r := H
 have A3 := Aside0.mk A30
 clear A30
 by_cases c4 : t154 = true
 ·
  subst c4
  have H1 : ((spec_poSet.f l0_0 a1).bind fun t155 => (if t155 = true then ((spec_poIdeal.f k l0_0 a1).bind fun t156 => (some t156)) else (some false))) = some r := by rw [if_pos rfl] at H; exact H
  clear H
  have H := H1
  clear H1
  replace H := Option.bind_eq_some_iff.mp H
  obtain ⟨t155, A50, H⟩ := H
  replace H : (if t155 = true then ((spec_poIdeal.f k l0_0 a1).bind fun t156 => (some t156)) else (some false)) = some r := H
  have A5 := Aside0.mk A50
  clear A50
  by_cases c6 : t155 = true
  ·
   subst c6
   have H1 : ((spec_poIdeal.f k l0_0 a1).bind fun t156 => (some t156)) = some r := by rw [if_pos rfl] at H; exact H
   clear H
   have H := H1
   clear H1
   replace H := Option.bind_eq_some_iff.mp H
   obtain ⟨t156, A70, H⟩ := H
   replace H : (some t156) = some r := H
   have A7 := Aside0.mk A70
   clear A70
   obtain rfl := Option.some.inj H
   go_enter Try.func48, Try.ntmps48
   go_wp2_with (first | ((with_reducible refine gate_dst (N := 2) rfl ?_); refine box_event ?hg (N := 2) ?hd (cs := #[.slice A0_0 l0_0.length c0_0]) (t := 28) ?hr ?_; (case hd => rfl); (case hg => rfl); (case hr => first | (go_simp; done) | (go_simp; rfl)); intro gb153 hg w8 hbox hb; have n0_ := Aside0.mk (below_step (by repeat (first | (with_reducible first | exact HB.out | apply below_alloc | apply pw_below_drewN | apply below_drew1) | exact HB.out)) hb); have n1_ := Aside0.mk (hbox); have n2_ := Aside0.mk ((by rw [hg]; exact (below_size (by repeat (first | (with_reducible first | exact HB.out | apply below_alloc | apply pw_below_drewN | apply below_drew1) | exact HB.out))) : w.heap.size ≤ gb153)); have n3_ := Aside0.mk ((by rw [hg]; exact (below_size (by repeat (first | (with_reducible first | exact HB.out | apply below_alloc | apply pw_below_drewN | apply below_drew1) | exact HB.out))) : w.heap.size ≤ gb153)); clear HB; have HB := n0_; have BK153 := n1_; have GW153 := n2_; have GE153 := n3_; clear n0_ n1_ n2_ n3_; clear hb hbox hg; have hcz9_0 : w8.cell? ⟨gb153, 0, none⟩ = some (.slice A0_0 l0_0.length c0_0) := (blk_cell BK153.out 0).trans rfl; have hfz9_0 := blk_frozen BK153.out 0) | ((with_reducible refine gate_callee (f := 77) rfl ?_); refine goesL_ (some 6) rfl rfl Try.func77 (by kernel_rfl) rfl #[.agg #[.slice A0_0 l0_0.length c0_0]] rfl (by (try simp only [List.map_toArray, List.map_cons, List.map_nil]); first | done | rfl | (simp only [List.length_drop, List.length_take]; rfl)) ?_; (with_reducible refine (spec_rvGood.calls k _ _ l0_0 true _ ?side1 ?side2 A3.out).mono ?_); (case side1 => repeat (first | exact (Kd.C_below HR0_0.out HB.out) | (with_reducible refine Kd.C_alloc ?_ _) | (with_reducible refine Kd.C_drewN ?_ _) | (with_reducible refine Kd.C_drew ?_))); (case side2 => exact HC0_0.out); rintro e w10 ⟨rfl, hb⟩; refine ⟨_, rfl, ?_⟩; have n0_ := Aside0.mk (blk_below (g := gb153) (o := .cells #[.slice A0_0 l0_0.length c0_0] 28 (0, 0)) (by (with_reducible repeat (first | refine blk_drewN ?_ _ | refine blk_drew ?_ | refine blk_alloc ?_ _)); exact BK153.out) hb); have n1_ := Aside0.mk (below_step (by repeat (first | (with_reducible first | exact HB.out | apply below_alloc | apply pw_below_drewN | apply below_drew1 | refine below_set ?_ GE153.out) | exact HB.out)) hb); clear BK153; clear HB; have BK153 := n0_; have HB := n1_; clear n0_ n1_; (try clear hb); (try clear hb2); (try clear hk); (try clear hi); have hcz11_0 : w10.cell? ⟨gb153, 0, none⟩ = some (.slice A0_0 l0_0.length c0_0) := (blk_cell BK153.out 0).trans rfl; have hfz11_0 := blk_frozen BK153.out 0) | (go_at_call 100; (with_reducible refine (spec_poSet.calls _ _ l0_0 a1 true _ ?side1 ?side2 A5.out).mono ?_); (case side1 => repeat (first | exact (Kd.C_below HR0_0.out HB.out) | (with_reducible refine Kd.C_alloc ?_ _) | (with_reducible refine Kd.C_drewN ?_ _) | (with_reducible refine Kd.C_drew ?_))); (case side2 => exact HC0_0.out); rintro e w12 ⟨rfl, hb⟩; have n0_ := Aside0.mk (blk_below (g := gb153) (o := .cells #[.slice A0_0 l0_0.length c0_0] 28 (0, 0)) (by (with_reducible repeat (first | refine blk_drewN ?_ _ | refine blk_drew ?_ | refine blk_alloc ?_ _)); exact BK153.out) hb); have n1_ := Aside0.mk (below_step (by repeat (first | (with_reducible first | exact HB.out | apply below_alloc | apply pw_below_drewN | apply below_drew1 | refine below_set ?_ GE153.out) | exact HB.out)) hb); clear BK153; clear HB; have BK153 := n0_; have HB := n1_; clear n0_ n1_; (try clear hb); (try clear hb2); (try clear hk); (try clear hi); have hcz13_0 : w12.cell? ⟨gb153, 0, none⟩ = some (.slice A0_0 l0_0.length c0_0) := (blk_cell BK153.out 0).trans rfl; have hfz13_0 := blk_frozen BK153.out 0) | (go_at_call 101; (with_reducible refine (spec_poIdeal.calls k _ _ l0_0 a1 t156 _ ?side1 ?side2 A7.out).mono ?_); (case side1 => repeat (first | exact (Kd.C_below HR0_0.out HB.out) | (with_reducible refine Kd.C_alloc ?_ _) | (with_reducible refine Kd.C_drewN ?_ _) | (with_reducible refine Kd.C_drew ?_))); (case side2 => exact HC0_0.out); rintro e w14 ⟨rfl, hb⟩; have n0_ := Aside0.mk (blk_below (g := gb153) (o := .cells #[.slice A0_0 l0_0.length c0_0] 28 (0, 0)) (by (with_reducible repeat (first | refine blk_drewN ?_ _ | refine blk_drew ?_ | refine blk_alloc ?_ _)); exact BK153.out) hb); have n1_ := Aside0.mk (below_step (by repeat (first | (with_reducible first | exact HB.out | apply below_alloc | apply pw_below_drewN | apply below_drew1 | refine below_set ?_ GE153.out) | exact HB.out)) hb); clear BK153; clear HB; have BK153 := n0_; have HB := n1_; clear n0_ n1_; (try clear hb); (try clear hb2); (try clear hk); (try clear hi)))
   go_ret
   exact ⟨by first | rfl | (simp [errW_none, errW_some] <;> rfl) | (simp [*, errW_none, errW_some] <;> rfl), by repeat (first | (with_reducible first | exact HB.out | apply below_alloc | apply pw_below_drewN | apply below_drew1 | refine below_set ?_ GE153.out) | exact HB.out)⟩
  ·
   replace c6 := Bool.eq_false_iff.mpr c6
   subst c6
   have H1 : (some false) = some r := by rw [if_neg (show ¬ (false = true) by decide)] at H; exact H
   clear H
   have H := H1
   clear H1
   obtain rfl := Option.some.inj H
   go_enter Try.func48, Try.ntmps48
   go_wp2_with (first | ((with_reducible refine gate_dst (N := 2) rfl ?_); refine box_event ?hg (N := 2) ?hd (cs := #[.slice A0_0 l0_0.length c0_0]) (t := 28) ?hr ?_; (case hd => rfl); (case hg => rfl); (case hr => first | (go_simp; done) | (go_simp; rfl)); intro gb153 hg w15 hbox hb; have n0_ := Aside0.mk (below_step (by repeat (first | (with_reducible first | exact HB.out | apply below_alloc | apply pw_below_drewN | apply below_drew1) | exact HB.out)) hb); have n1_ := Aside0.mk (hbox); have n2_ := Aside0.mk ((by rw [hg]; exact (below_size (by repeat (first | (with_reducible first | exact HB.out | apply below_alloc | apply pw_below_drewN | apply below_drew1) | exact HB.out))) : w.heap.size ≤ gb153)); have n3_ := Aside0.mk ((by rw [hg]; exact (below_size (by repeat (first | (with_reducible first | exact HB.out | apply below_alloc | apply pw_below_drewN | apply below_drew1) | exact HB.out))) : w.heap.size ≤ gb153)); clear HB; have HB := n0_; have BK153 := n1_; have GW153 := n2_; have GE153 := n3_; clear n0_ n1_ n2_ n3_; clear hb hbox hg; have hcz16_0 : w15.cell? ⟨gb153, 0, none⟩ = some (.slice A0_0 l0_0.length c0_0) := (blk_cell BK153.out 0).trans rfl; have hfz16_0 := blk_frozen BK153.out 0) | ((with_reducible refine gate_callee (f := 77) rfl ?_); refine goesL_ (some 6) rfl rfl Try.func77 (by kernel_rfl) rfl #[.agg #[.slice A0_0 l0_0.length c0_0]] rfl (by (try simp only [List.map_toArray, List.map_cons, List.map_nil]); first | done | rfl | (simp only [List.length_drop, List.length_take]; rfl)) ?_; (with_reducible refine (spec_rvGood.calls k _ _ l0_0 true _ ?side1 ?side2 A3.out).mono ?_); (case side1 => repeat (first | exact (Kd.C_below HR0_0.out HB.out) | (with_reducible refine Kd.C_alloc ?_ _) | (with_reducible refine Kd.C_drewN ?_ _) | (with_reducible refine Kd.C_drew ?_))); (case side2 => exact HC0_0.out); rintro e w17 ⟨rfl, hb⟩; refine ⟨_, rfl, ?_⟩; have n0_ := Aside0.mk (blk_below (g := gb153) (o := .cells #[.slice A0_0 l0_0.length c0_0] 28 (0, 0)) (by (with_reducible repeat (first | refine blk_drewN ?_ _ | refine blk_drew ?_ | refine blk_alloc ?_ _)); exact BK153.out) hb); have n1_ := Aside0.mk (below_step (by repeat (first | (with_reducible first | exact HB.out | apply below_alloc | apply pw_below_drewN | apply below_drew1 | refine below_set ?_ GE153.out) | exact HB.out)) hb); clear BK153; clear HB; have BK153 := n0_; have HB := n1_; clear n0_ n1_; (try clear hb); (try clear hb2); (try clear hk); (try clear hi); have hcz18_0 : w17.cell? ⟨gb153, 0, none⟩ = some (.slice A0_0 l0_0.length c0_0) := (blk_cell BK153.out 0).trans rfl; have hfz18_0 := blk_frozen BK153.out 0) | (go_at_call 100; (with_reducible refine (spec_poSet.calls _ _ l0_0 a1 false _ ?side1 ?side2 A5.out).mono ?_); (case side1 => repeat (first | exact (Kd.C_below HR0_0.out HB.out) | (with_reducible refine Kd.C_alloc ?_ _) | (with_reducible refine Kd.C_drewN ?_ _) | (with_reducible refine Kd.C_drew ?_))); (case side2 => exact HC0_0.out); rintro e w19 ⟨rfl, hb⟩; have n0_ := Aside0.mk (blk_below (g := gb153) (o := .cells #[.slice A0_0 l0_0.length c0_0] 28 (0, 0)) (by (with_reducible repeat (first | refine blk_drewN ?_ _ | refine blk_drew ?_ | refine blk_alloc ?_ _)); exact BK153.out) hb); have n1_ := Aside0.mk (below_step (by repeat (first | (with_reducible first | exact HB.out | apply below_alloc | apply pw_below_drewN | apply below_drew1 | refine below_set ?_ GE153.out) | exact HB.out)) hb); clear BK153; clear HB; have BK153 := n0_; have HB := n1_; clear n0_ n1_; (try clear hb); (try clear hb2); (try clear hk); (try clear hi)))
   go_ret
   exact ⟨by first | rfl | (simp [errW_none, errW_some] <;> rfl) | (simp [*, errW_none, errW_some] <;> rfl), by repeat (first | (with_reducible first | exact HB.out | apply below_alloc | apply pw_below_drewN | apply below_drew1 | refine below_set ?_ GE153.out) | exact HB.out)⟩
 ·
  replace c4 := Bool.eq_false_iff.mpr c4
  subst c4
  have H1 : (some false) = some r := by rw [if_neg (show ¬ (false = true) by decide)] at H; exact H
  clear H
  have H := H1
  clear H1
  obtain rfl := Option.some.inj H
  go_enter Try.func48, Try.ntmps48
  go_wp2_with (first | ((with_reducible refine gate_dst (N := 2) rfl ?_); refine box_event ?hg (N := 2) ?hd (cs := #[.slice A0_0 l0_0.length c0_0]) (t := 28) ?hr ?_; (case hd => rfl); (case hg => rfl); (case hr => first | (go_simp; done) | (go_simp; rfl)); intro gb153 hg w20 hbox hb; have n0_ := Aside0.mk (below_step (by repeat (first | (with_reducible first | exact HB.out | apply below_alloc | apply pw_below_drewN | apply below_drew1) | exact HB.out)) hb); have n1_ := Aside0.mk (hbox); have n2_ := Aside0.mk ((by rw [hg]; exact (below_size (by repeat (first | (with_reducible first | exact HB.out | apply below_alloc | apply pw_below_drewN | apply below_drew1) | exact HB.out))) : w.heap.size ≤ gb153)); have n3_ := Aside0.mk ((by rw [hg]; exact (below_size (by repeat (first | (with_reducible first | exact HB.out | apply below_alloc | apply pw_below_drewN | apply below_drew1) | exact HB.out))) : w.heap.size ≤ gb153)); clear HB; have HB := n0_; have BK153 := n1_; have GW153 := n2_; have GE153 := n3_; clear n0_ n1_ n2_ n3_; clear hb hbox hg; have hcz21_0 : w20.cell? ⟨gb153, 0, none⟩ = some (.slice A0_0 l0_0.length c0_0) := (blk_cell BK153.out 0).trans rfl; have hfz21_0 := blk_frozen BK153.out 0) | ((with_reducible refine gate_callee (f := 77) rfl ?_); refine goesL_ (some 6) rfl rfl Try.func77 (by kernel_rfl) rfl #[.agg #[.slice A0_0 l0_0.length c0_0]] rfl (by (try simp only [List.map_toArray, List.map_cons, List.map_nil]); first | done | rfl | (simp only [List.length_drop, List.length_take]; rfl)) ?_; (with_reducible refine (spec_rvGood.calls k _ _ l0_0 false _ ?side1 ?side2 A3.out).mono ?_); (case side1 => repeat (first | exact (Kd.C_below HR0_0.out HB.out) | (with_reducible refine Kd.C_alloc ?_ _) | (with_reducible refine Kd.C_drewN ?_ _) | (with_reducible refine Kd.C_drew ?_))); (case side2 => exact HC0_0.out); rintro e w22 ⟨rfl, hb⟩; refine ⟨_, rfl, ?_⟩; have n0_ := Aside0.mk (blk_below (g := gb153) (o := .cells #[.slice A0_0 l0_0.length c0_0] 28 (0, 0)) (by (with_reducible repeat (first | refine blk_drewN ?_ _ | refine blk_drew ?_ | refine blk_alloc ?_ _)); exact BK153.out) hb); have n1_ := Aside0.mk (below_step (by repeat (first | (with_reducible first | exact HB.out | apply below_alloc | apply pw_below_drewN | apply below_drew1 | refine below_set ?_ GE153.out) | exact HB.out)) hb); clear BK153; clear HB; have BK153 := n0_; have HB := n1_; clear n0_ n1_; (try clear hb); (try clear hb2); (try clear hk); (try clear hi)))
  go_ret
  exact ⟨by first | rfl | (simp [errW_none, errW_some] <;> rfl) | (simp [*, errW_none, errW_some] <;> rfl), by repeat (first | (with_reducible first | exact HB.out | apply below_alloc | apply pw_below_drewN | apply below_drew1 | refine below_set ?_ GE153.out) | exact HB.out)⟩
end Go.Proofs.Ytpdgiinedbdamaa.L
end
section
namespace Go.Proofs.Ytpdgiinedbdamaa.L
open Go.RowKit Go.Proofs.YtpdgiinedbdamaaW.PrintWords Go.Proofs.YtpdgiinedbdamaaW.PrintLast Go.Proofs.YtpdgiinedbdamaaW.PrintMore
attribute [local go_sem] max2_int min2_int max_two min_two max_three min_three max_four min_four
set_option linter.unusedVariables false
set_option linter.unusedSimpArgs false
def spec_GyrateIdeal.f (k : Nat) (l0_0 : List Int) (a1 : Int) : Option (Int × Bool) := (spec_rvIn.f k l0_0 a1).bind fun t182 => (if t182 = true then ((spec_rvGyrate.f k l0_0 a1 false).bind fun t183 => (some (t183, true))) else (some (0, false)))
theorem spec_GyrateIdeal.mono : ∀ a0 a1 k, LeO (spec_GyrateIdeal.f k a0 a1) (spec_GyrateIdeal.f (k + 1) a0 a1) := by
 intro a0 a1 k
 unfold spec_GyrateIdeal.f
 repeat' first
   | (with_reducible exact spec_rvGyrate.mono _ _ _ _)
   | (with_reducible exact spec_rvIn.mono _ _ _)
   | (with_reducible exact LeO.refl _)
   | (with_reducible exact LeO.none _)
   | (with_reducible refine LeO.ite ?_ ?_)
   | (with_reducible refine LeO.bind ?_ (fun _ => ?_))
   | exact spec_rvGyrate.mono _ _ _ _
   | exact spec_rvIn.mono _ _ _
   | exact LeO.none _
   | refine LeO.ite ?_ ?_
   | refine LeO.bind ?_ (fun _ => ?_)
set_option maxHeartbeats 8000000 in
set_option maxRecDepth 100000 in
theorem spec_GyrateIdeal.calls (k : Nat) (A0_0 : Option Addr) (c0_0 : Nat) (l0_0 : List Int) (a1 : Int) (r1 : Int) (r2 : Bool) (w : World) (hr0_0 : Kd.C (Kd.int .i64) w A0_0 l0_0.length l0_0) (hc0_0 : l0_0.length ≤ c0_0) (h : spec_GyrateIdeal.f k l0_0 a1 = some (r1, r2)) :
  Calls Try.prog 15 #[.agg #[.slice A0_0 l0_0.length c0_0], .int .i64 a1] w fun e w' => e = .returned (.tuple #[.int .i64 r1, .bool r2]) ∧ Below w.heap.size w w' := by
 have hu28 := Try.underlying28
 have HR0_0 := Aside0.mk hr0_0
 have HC0_0 := Aside0.mk hc0_0
 clear hr0_0 hc0_0
 have HB := Aside0.mk (Below.refl w.heap.size w)
 have H : ((spec_rvIn.f k l0_0 a1).bind fun t182 => (if t182 = true then ((spec_rvGyrate.f k l0_0 a1 false).bind fun t183 => (some (t183, true))) else (some (0, false)))) = some (r1, r2) := h
 clear h
 replace H := Option.bind_eq_some_iff.mp H
 obtain ⟨t182, A30, H⟩ := H
 replace H : (if t182 = true then ((spec_rvGyrate.f k l0_0 a1 false).bind fun t183 => (some (t183, true))) else (some (0, false))) = some (r1, r2) := H
 have A3 := Aside0.mk A30
 clear A30
 by_cases c4 : t182 = true
 ·
  subst c4
  have H1 : ((spec_rvGyrate.f k l0_0 a1 false).bind fun t183 => (some (t183, true))) = some (r1, r2) := by rw [if_pos rfl] at H; exact H
  clear H
  have H := H1
  clear H1
  replace H := Option.bind_eq_some_iff.mp H
  obtain ⟨t183, A50, H⟩ := H
  replace H : (some (t183, true)) = some (r1, r2) := H
  have A5 := Aside0.mk A50
  clear A50
  simp only [Option.some.injEq, Prod.mk.injEq] at H
  obtain ⟨rfl, rfl⟩ := H
  go_enter Try.func15, Try.ntmps15
  go_wp2_with (first | ((with_reducible refine gate_dst (N := 2) rfl ?_); refine box_event ?hg (N := 2) ?hd (cs := #[.slice A0_0 l0_0.length c0_0]) (t := 28) ?hr ?_; (case hd => rfl); (case hg => rfl); (case hr => first | (go_simp; done) | (go_simp; rfl)); intro gb181 hg w6 hbox hb; have n0_ := Aside0.mk (below_step (by repeat (first | (with_reducible first | exact HB.out | apply below_alloc | apply pw_below_drewN | apply below_drew1) | exact HB.out)) hb); have n1_ := Aside0.mk (hbox); have n2_ := Aside0.mk ((by rw [hg]; exact (below_size (by repeat (first | (with_reducible first | exact HB.out | apply below_alloc | apply pw_below_drewN | apply below_drew1) | exact HB.out))) : w.heap.size ≤ gb181)); have n3_ := Aside0.mk ((by rw [hg]; exact (below_size (by repeat (first | (with_reducible first | exact HB.out | apply below_alloc | apply pw_below_drewN | apply below_drew1) | exact HB.out))) : w.heap.size ≤ gb181)); clear HB; have HB := n0_; have BK181 := n1_; have GW181 := n2_; have GE181 := n3_; clear n0_ n1_ n2_ n3_; clear hb hbox hg; have hcz7_0 : w6.cell? ⟨gb181, 0, none⟩ = some (.slice A0_0 l0_0.length c0_0) := (blk_cell BK181.out 0).trans rfl; have hfz7_0 := blk_frozen BK181.out 0) | ((with_reducible refine gate_callee (f := 48) rfl ?_); refine goesL_ (some 8) rfl rfl Try.func48 (by kernel_rfl) rfl #[.agg #[.slice A0_0 l0_0.length c0_0], .int .i64 a1] rfl (by (try simp only [List.map_toArray, List.map_cons, List.map_nil]); first | done | rfl | (simp only [List.length_drop, List.length_take]; rfl)) ?_; (with_reducible refine (spec_rvIn.calls k _ _ l0_0 a1 true _ ?side1 ?side2 A3.out).mono ?_); (case side1 => repeat (first | exact (Kd.C_below HR0_0.out HB.out) | (with_reducible refine Kd.C_alloc ?_ _) | (with_reducible refine Kd.C_drewN ?_ _) | (with_reducible refine Kd.C_drew ?_))); (case side2 => exact HC0_0.out); rintro e w8 ⟨rfl, hb⟩; refine ⟨_, rfl, ?_⟩; have n0_ := Aside0.mk (blk_below (g := gb181) (o := .cells #[.slice A0_0 l0_0.length c0_0] 28 (0, 0)) (by (with_reducible repeat (first | refine blk_drewN ?_ _ | refine blk_drew ?_ | refine blk_alloc ?_ _)); exact BK181.out) hb); have n1_ := Aside0.mk (below_step (by repeat (first | (with_reducible first | exact HB.out | apply below_alloc | apply pw_below_drewN | apply below_drew1 | refine below_set ?_ GE181.out) | exact HB.out)) hb); clear BK181; clear HB; have BK181 := n0_; have HB := n1_; clear n0_ n1_; (try clear hb); (try clear hb2); (try clear hk); (try clear hi); have hcz9_0 : w8.cell? ⟨gb181, 0, none⟩ = some (.slice A0_0 l0_0.length c0_0) := (blk_cell BK181.out 0).trans rfl; have hfz9_0 := blk_frozen BK181.out 0) | ((with_reducible refine gate_callee (f := 49) rfl ?_); refine goesL_ (some 12) rfl rfl Try.func49 (by kernel_rfl) rfl #[.agg #[.slice A0_0 l0_0.length c0_0], .int .i64 a1, .bool false] rfl (by (try simp only [List.map_toArray, List.map_cons, List.map_nil]); first | done | rfl | (simp only [List.length_drop, List.length_take]; rfl)) ?_; (with_reducible refine (spec_rvGyrate.calls k _ _ l0_0 a1 false t183 _ ?side1 ?side2 A5.out).mono ?_); (case side1 => repeat (first | exact (Kd.C_below HR0_0.out HB.out) | (with_reducible refine Kd.C_alloc ?_ _) | (with_reducible refine Kd.C_drewN ?_ _) | (with_reducible refine Kd.C_drew ?_))); (case side2 => exact HC0_0.out); rintro e w10 ⟨rfl, hb⟩; refine ⟨_, rfl, ?_⟩; have n0_ := Aside0.mk (blk_below (g := gb181) (o := .cells #[.slice A0_0 l0_0.length c0_0] 28 (0, 0)) (by (with_reducible repeat (first | refine blk_drewN ?_ _ | refine blk_drew ?_ | refine blk_alloc ?_ _)); exact BK181.out) hb); have n1_ := Aside0.mk (below_step (by repeat (first | (with_reducible first | exact HB.out | apply below_alloc | apply pw_below_drewN | apply below_drew1 | refine below_set ?_ GE181.out) | exact HB.out)) hb); clear BK181; clear HB; have BK181 := n0_; have HB := n1_; clear n0_ n1_; (try clear hb); (try clear hb2); (try clear hk); (try clear hi)))
  go_ret2
  exact ⟨by first | rfl | (simp [errW_none, errW_some] <;> rfl) | (simp [*, errW_none, errW_some] <;> rfl), by repeat (first | (with_reducible first | exact HB.out | apply below_alloc | apply pw_below_drewN | apply below_drew1 | refine below_set ?_ GE181.out) | exact HB.out)⟩
 ·
  replace c4 := Bool.eq_false_iff.mpr c4
  subst c4
  have H1 : (some (0, false)) = some (r1, r2) := by rw [if_neg (show ¬ (false = true) by decide)] at H; exact H
  clear H
  have H := H1
  clear H1
  simp only [Option.some.injEq, Prod.mk.injEq] at H
  obtain ⟨rfl, rfl⟩ := H
  go_enter Try.func15, Try.ntmps15
  go_wp2_with (first | ((with_reducible refine gate_dst (N := 2) rfl ?_); refine box_event ?hg (N := 2) ?hd (cs := #[.slice A0_0 l0_0.length c0_0]) (t := 28) ?hr ?_; (case hd => rfl); (case hg => rfl); (case hr => first | (go_simp; done) | (go_simp; rfl)); intro gb181 hg w11 hbox hb; have n0_ := Aside0.mk (below_step (by repeat (first | (with_reducible first | exact HB.out | apply below_alloc | apply pw_below_drewN | apply below_drew1) | exact HB.out)) hb); have n1_ := Aside0.mk (hbox); have n2_ := Aside0.mk ((by rw [hg]; exact (below_size (by repeat (first | (with_reducible first | exact HB.out | apply below_alloc | apply pw_below_drewN | apply below_drew1) | exact HB.out))) : w.heap.size ≤ gb181)); have n3_ := Aside0.mk ((by rw [hg]; exact (below_size (by repeat (first | (with_reducible first | exact HB.out | apply below_alloc | apply pw_below_drewN | apply below_drew1) | exact HB.out))) : w.heap.size ≤ gb181)); clear HB; have HB := n0_; have BK181 := n1_; have GW181 := n2_; have GE181 := n3_; clear n0_ n1_ n2_ n3_; clear hb hbox hg; have hcz12_0 : w11.cell? ⟨gb181, 0, none⟩ = some (.slice A0_0 l0_0.length c0_0) := (blk_cell BK181.out 0).trans rfl; have hfz12_0 := blk_frozen BK181.out 0) | ((with_reducible refine gate_callee (f := 48) rfl ?_); refine goesL_ (some 8) rfl rfl Try.func48 (by kernel_rfl) rfl #[.agg #[.slice A0_0 l0_0.length c0_0], .int .i64 a1] rfl (by (try simp only [List.map_toArray, List.map_cons, List.map_nil]); first | done | rfl | (simp only [List.length_drop, List.length_take]; rfl)) ?_; (with_reducible refine (spec_rvIn.calls k _ _ l0_0 a1 false _ ?side1 ?side2 A3.out).mono ?_); (case side1 => repeat (first | exact (Kd.C_below HR0_0.out HB.out) | (with_reducible refine Kd.C_alloc ?_ _) | (with_reducible refine Kd.C_drewN ?_ _) | (with_reducible refine Kd.C_drew ?_))); (case side2 => exact HC0_0.out); rintro e w13 ⟨rfl, hb⟩; refine ⟨_, rfl, ?_⟩; have n0_ := Aside0.mk (blk_below (g := gb181) (o := .cells #[.slice A0_0 l0_0.length c0_0] 28 (0, 0)) (by (with_reducible repeat (first | refine blk_drewN ?_ _ | refine blk_drew ?_ | refine blk_alloc ?_ _)); exact BK181.out) hb); have n1_ := Aside0.mk (below_step (by repeat (first | (with_reducible first | exact HB.out | apply below_alloc | apply pw_below_drewN | apply below_drew1 | refine below_set ?_ GE181.out) | exact HB.out)) hb); clear BK181; clear HB; have BK181 := n0_; have HB := n1_; clear n0_ n1_; (try clear hb); (try clear hb2); (try clear hk); (try clear hi)))
  go_ret2
  exact ⟨by first | rfl | (simp [errW_none, errW_some] <;> rfl) | (simp [*, errW_none, errW_some] <;> rfl), by repeat (first | (with_reducible first | exact HB.out | apply below_alloc | apply pw_below_drewN | apply below_drew1 | refine below_set ?_ GE181.out) | exact HB.out)⟩
end Go.Proofs.Ytpdgiinedbdamaa.L
end
