/- Laws about the given program: the law FnExactRowvacuationWord answers true for every input that its row lets in; no condition is added to the given statement. Contracts of the Go functions that it reaches, and the plain proof over lists. -/
import Derived.Below
import Derived.ChangeOld
import Derived.Lib.SmallJoins
import Derived.OpenShut
import Derived.ProofKit
import Derived.ShutString
import Derived.SizedLaws
import Derived.Test.YtpcehliabaakeaaRows
import Derived.WalkKit
import Derived.Test.YtpcehliabaakeaaWFnExactRowvacuationWord0
import Derived.Test.YtpcehliabaakeaaKFnExactRowvacuationWord0
import Derived.Test.YtpcehliabaakeaaKFnExactRowvacuationWord1
import Derived.Test.YtpcehliabaakeaaKFnExactRowvacuationWord2
import Derived.Test.YtpcehliabaakeaaKFnExactRowvacuationWord3
import Derived.Test.YtpcehliabaakeaaKFnExactRowvacuationWord4
import Derived.Test.YtpcehliabaakeaaKFnExactRowvacuationWord5
import Derived.Test.YtpcehliabaakeaaKFnExactRowvacuationWord6
import Derived.Test.YtpcehliabaakeaaKFnExactRowvacuationWord7
section
namespace Go.Proofs.Ytpcehliabaakeaa.M
set_option linter.unusedVariables false
open Go.RowKit Go.Proofs.YtpcehliabaakeaaW.PrintWords Go.Proofs.YtpcehliabaakeaaW.PrintLast Go.Proofs.YtpcehliabaakeaaW.PrintMore
def toI (p : List Nat) : List Int := p.map fun (x : Nat) => (x : Int)
@[simp] theorem toI_len (p : List Nat) : (toI p).length = p.length := by simp [toI]
@[simp] theorem toI_nil : toI [] = [] := rfl
theorem toI_app (p q : List Nat) : toI (p ++ q) = toI p ++ toI q := by simp [toI]
theorem toI_one (x : Nat) : toI [x] = [(x : Int)] := rfl
theorem toI_set (p : List Nat) (i x : Nat) : (toI p).set i (x : Int) = toI (p.set i x) := by simp [toI, List.map_set]
theorem toI_rep (n x : Nat) : List.replicate n (x : Int) = toI (List.replicate n x) := by simp [toI]
theorem rd_toI (p : List Nat) (i : Nat) : rd (toI p) (i : Int) = ((p.getD i 0 : Nat) : Int) := by
  simp only [rd, toI, Int.toNat_natCast, List.getD_eq_getElem?_getD, List.getElem?_map]
  cases p[i]? <;> simp
def less (p : List Nat) (i : Nat) : Nat := p.getD i 0
theorem less_out {p : List Nat} {i : Nat} (h : p.length ≤ i) : less p i = 0 := by simp [less, List.getD_eq_getElem?_getD, h]
theorem rd_less (p : List Nat) (i : Nat) : rd (toI p) (i : Int) = ((less p i : Nat) : Int) := rd_toI p i
structure Good (p : List Nat) : Prop where
  pos : 1 ≤ p.length
  le : p.length ≤ 10
  lt : ∀ i, i < p.length → less p i < 2 ^ i
  tr : ∀ i, i < p.length → ∀ j, (less p i).testBit j = true → ∀ m, (less p j).testBit m = true → (less p i).testBit m = true
theorem Good.bit {p : List Nat} (g : Good p) {i j : Nat} (h : (less p i).testBit j = true) : j < i ∧ i < p.length := by
  have hi : i < p.length := by
    apply Nat.lt_of_not_le; intro h2; rw [less_out h2, Nat.zero_testBit] at h; cases h
  exact ⟨bit_lt (g.lt i hi) h, hi⟩
theorem Good.lt10 {p : List Nat} (g : Good p) (i : Nat) : less p i < 2 ^ p.length := by
  by_cases hi : i < p.length
  · exact Nat.lt_of_lt_of_le (g.lt i hi) (Nat.pow_le_pow_right (by decide) (by omega))
  · rw [less_out (by omega)]; exact Nat.two_pow_pos _
theorem Good.lt63 {p : List Nat} (g : Good p) (i : Nat) : less p i < 2 ^ 63 := M.lt63 (g.lt10 i) (by have := g.le; omega)
theorem Good.tr' {p : List Nat} (g : Good p) {i j m : Nat} (h1 : (less p i).testBit j = true) (h2 : (less p j).testBit m = true) : (less p i).testBit m = true := g.tr i (g.bit h1).2 j h1 m h2
def okAt (l : List Int) (i : Nat) : Bool := inB (l.getD i 0) 0 ((2 ^ i - 1 : Nat) : Int) && (List.range i).all fun j => !((l.getD i 0).toNat.testBit j) || sd (l.getD j 0).toNat (l.getD i 0).toNat == 0
theorem okAt_def (l : List Int) (i : Nat) : okAt l i = (inB (l.getD i 0) 0 ((2 ^ i - 1 : Nat) : Int) && (List.range i).all fun j => !((l.getD i 0).toNat.testBit j) || sd (l.getD j 0).toNat (l.getD i 0).toNat == 0) := rfl
def goodB (l : List Int) : Bool := inB (l.length : Int) 1 10 && (List.range' 0 l.length).all (okAt l)
theorem okAt_nat {l : List Int} {i : Nat} (h : okAt l i = true) : ∃ a : Nat, l.getD i 0 = (a : Int) ∧ a < 2 ^ i := by
  simp only [okAt, Bool.and_eq_true, inB_iff] at h
  have := Nat.two_pow_pos i
  exact ⟨(l.getD i 0).toNat, by omega, by omega⟩
theorem goodB_of {l : List Int} (h : goodB l = true) : ∃ p, l = toI p ∧ Good p := by
  simp only [goodB, Bool.and_eq_true, inB_iff, List.all_eq_true, List.mem_range'_1] at h
  obtain ⟨⟨h1, h2⟩, h3⟩ := h
  have hn : ∀ i, i < l.length → okAt l i = true := fun i hi => h3 i (by omega)
  have e : l = toI (l.map Int.toNat) := by
    apply List.ext_getElem (by simp)
    intro i hi1 hi2
    obtain ⟨a, ha, _⟩ := okAt_nat (hn i hi1)
    have hg : l.getD i 0 = l[i] := by simp [List.getD_eq_getElem?_getD, hi1]
    simp only [toI, List.getElem_map]; omega
  refine ⟨l.map Int.toNat, e, ?_⟩
  have hl : ∀ i, less (l.map Int.toNat) i = (l.getD i 0).toNat := by
    intro i
    simp only [less, List.getD_eq_getElem?_getD, List.getElem?_map]
    cases l[i]? <;> simp
  refine ⟨by simp; omega, by simp; omega, fun i hi => ?_, fun i hi j hj m hm => ?_⟩
  · obtain ⟨a, ha, hb⟩ := okAt_nat (hn i (by simpa using hi))
    rw [hl, ha]; simpa using hb
  · have hi' : i < l.length := by simpa using hi
    have ho := hn i hi'
    obtain ⟨a, ha, hb⟩ := okAt_nat ho
    simp only [okAt, Bool.and_eq_true, List.all_eq_true, List.mem_range, Bool.or_eq_true, Bool.not_eq_true', beq_iff_eq] at ho
    rw [hl] at hj hm ⊢
    have hji : j < i := by rw [ha] at hj; exact bit_lt hb (by simpa using hj)
    rcases ho.2 j hji with hz | hz
    · rw [hj] at hz; cases hz
    · exact sd_zero.mp hz m hm
def items (m : Nat) : List Nat := (List.range 10).filter fun e => m.testBit e
theorem mem_items {m e : Nat} : e ∈ items m ↔ e < 10 ∧ m.testBit e = true := by simp [items]
theorem items_len (m : Nat) : (items m).length ≤ 10 := by
  have := List.length_filter_le (fun e => m.testBit e) (List.range 10)
  simpa [items] using this
def foldBits {α : Type} (n s : Nat) (f : α → Nat → α) (a : α) : α := (List.range n).foldl (fun a e => if s.testBit e = true then f a e else a) a
theorem foldl_items {α : Type} (s : Nat) (f : α → Nat → α) (a : α) : (items s).foldl f a = foldBits 10 s f a := by
  unfold items foldBits; rw [List.foldl_filter]
theorem foldl_none {α : Type} (s : Nat) (f : α → Nat → α) : ∀ (l : List Nat) (a : α), (∀ e ∈ l, s.testBit e = false) → l.foldl (fun a e => if s.testBit e = true then f a e else a) a = a
  | [], _, _ => rfl
  | x :: l, a, h => by
    rw [List.foldl_cons, if_neg (by rw [h x List.mem_cons_self]; simp)]
    exact foldl_none s f l a fun e he => h e (List.mem_cons_of_mem _ he)
theorem foldBits_le {α : Type} {n m s : Nat} (f : α → Nat → α) (a : α) (h : s < 2 ^ n) (hm : n ≤ m) : foldBits m s f a = foldBits n s f a := by
  unfold foldBits
  obtain ⟨d, rfl⟩ := Nat.exists_eq_add_of_le hm
  rw [List.range_add, List.foldl_append]
  apply foldl_none
  intro e he
  simp only [List.mem_map, List.mem_range] at he
  obtain ⟨x, _, rfl⟩ := he
  exact Nat.testBit_lt_two_pow (Nat.lt_of_lt_of_le h (Nat.pow_le_pow_right (by decide) (by omega)))
theorem foldl_items_n {α : Type} {n s : Nat} (f : α → Nat → α) (a : α) (h : s < 2 ^ n) (hn : n ≤ 10) : (items s).foldl f a = foldBits n s f a := by
  rw [foldl_items, foldBits_le f a h hn]
theorem foldBits_succ {α : Type} (n s : Nat) (f : α → Nat → α) (a : α) : foldBits (n + 1) s f a = if s.testBit n = true then f (foldBits n s f a) n else foldBits n s f a := by
  unfold foldBits; rw [List.range_succ, List.foldl_append]; rfl
theorem foldBits_inv {α : Type} (n s : Nat) (f : α → Nat → α) (a : α) (I : α → Prop) (h0 : I a) (h : ∀ a e, I a → e < n → s.testBit e = true → I (f a e)) : I (foldBits n s f a) := by
  induction n with
  | zero => exact h0
  | succ n ih =>
    have ih := ih fun a e ha he hs => h a e ha (by omega) hs
    rw [foldBits_succ]
    split
    · exact h _ _ ih (by omega) (by assumption)
    · exact ih
def full (p : List Nat) : Nat := 2 ^ p.length - 1
theorem full_lt (p : List Nat) : full p < 2 ^ p.length := by have := Nat.two_pow_pos p.length; unfold full; omega
theorem full_bit (p : List Nat) (i : Nat) : (full p).testBit i = decide (i < p.length) := by unfold full; rw [Nat.testBit_two_pow_sub_one]
def close (p : List Nat) (s : Nat) : Nat := foldBits p.length s (fun o e => o ||| less p e) s
theorem close_lt {p : List Nat} (g : Good p) {s : Nat} (h : s < 2 ^ p.length) : close p s < 2 ^ p.length :=
  foldBits_inv _ _ _ _ (· < 2 ^ p.length) h (fun a e ha _ _ => Nat.or_lt_two_pow ha (g.lt10 e))
theorem foldOr_bit (p : List Nat) (s a i : Nat) : ∀ n, (foldBits n s (fun o e => o ||| less p e) a).testBit i = true ↔ (a.testBit i = true ∨ ∃ e, e < n ∧ s.testBit e = true ∧ (less p e).testBit i = true)
  | 0 => by simp [foldBits]
  | n + 1 => by
    rw [foldBits_succ]
    have ih := foldOr_bit p s a i n
    split
    · rename_i hs
      rw [Nat.testBit_or, Bool.or_eq_true, ih]
      constructor
      · rintro ((h | ⟨e, h1, h2, h3⟩) | h)
        · exact .inl h
        · exact .inr ⟨e, by omega, h2, h3⟩
        · exact .inr ⟨n, by omega, hs, h⟩
      · rintro (h | ⟨e, h1, h2, h3⟩)
        · exact .inl (.inl h)
        · by_cases he : e = n
          · subst he; exact .inr h3
          · exact .inl (.inr ⟨e, by omega, h2, h3⟩)
    · rename_i hs
      rw [ih]
      constructor
      · rintro (h | ⟨e, h1, h2, h3⟩)
        · exact .inl h
        · exact .inr ⟨e, by omega, h2, h3⟩
      · rintro (h | ⟨e, h1, h2, h3⟩)
        · exact .inl h
        · by_cases he : e = n
          · subst he; exact absurd h2 hs
          · exact .inr ⟨e, by omega, h2, h3⟩
theorem close_bit {p : List Nat} {s i : Nat} (h : s < 2 ^ p.length) : (close p s).testBit i = true ↔ (s.testBit i = true ∨ ∃ e, s.testBit e = true ∧ (less p e).testBit i = true) := by
  unfold close; rw [foldOr_bit]
  constructor
  · rintro (h1 | ⟨e, _, h1⟩)
    · exact .inl h1
    · exact .inr ⟨e, h1⟩
  · rintro (h1 | ⟨e, h1⟩)
    · exact .inl h1
    · exact .inr ⟨e, bit_lt h h1.1, h1⟩
def IsId (p : List Nat) (s : Nat) : Prop := s < 2 ^ p.length ∧ ∀ e, s.testBit e = true → ∀ i, (less p e).testBit i = true → s.testBit i = true
def idealB (p : List Nat) (s : Nat) : Bool := (List.range' 0 p.length).all fun e => !(s.testBit e) || sd (less p e) s == 0
theorem idealB_iff {p : List Nat} {s : Nat} (h : s < 2 ^ p.length) : idealB p s = true ↔ IsId p s := by
  simp only [idealB, IsId, List.all_eq_true, List.mem_range'_1, Bool.or_eq_true, Bool.not_eq_true', beq_iff_eq, sd_zero]
  constructor
  · intro h1
    refine ⟨h, fun e he => ?_⟩
    rcases h1 e ⟨by omega, by have := bit_lt h he; omega⟩ with h2 | h2
    · rw [he] at h2; cases h2
    · exact h2
  · rintro ⟨_, h1⟩ e _
    cases he : s.testBit e
    · exact .inl rfl
    · exact .inr (h1 e he)
end Go.Proofs.Ytpcehliabaakeaa.M
end
section
namespace Go.Proofs.Ytpcehliabaakeaa.L
open Go.RowKit Go.Proofs.YtpcehliabaakeaaW.PrintWords Go.Proofs.YtpcehliabaakeaaW.PrintLast Go.Proofs.YtpcehliabaakeaaW.PrintMore
attribute [local go_sem] max2_int min2_int max_two min_two max_three min_three max_four min_four
set_option linter.unusedVariables false
set_option linter.unusedSimpArgs false
def spec_l1All.l0 : Nat → Int → Int → List Int → Int → Int → Option (Bool)
  | 0, _, _, _, _, _ => none
  | k + 1, x1, x2, x9, x10, x11 => if x11 < x10 then (if 0 ≤ x11 then (if x11 < (x9.length : Int) then ((spec_l1In.f (rd x9 x11) x1 x2).bind fun t211 => (if t211 = true then (spec_l1All.l0 k x1 x2 x9 x10 (wrap64 (x11 + 1))) else (some false))) else (none)) else (none)) else (some true)
def spec_l1All.f (k : Nat) (l0 : List Int) (a1 : Int) (a2 : Int) : Option (Bool) := spec_l1All.l0 k a1 a2 l0 (l0.length : Int) 0
theorem spec_l1All.mono_l : ∀ k, (∀ y0 y1 y2 y3 y4, LeO (spec_l1All.l0 k y0 y1 y2 y3 y4) (spec_l1All.l0 (k + 1) y0 y1 y2 y3 y4))
  | 0 => fun _ _ _ _ _ r h => by simp [spec_l1All.l0] at h
  | k + 1 => by
    have ih0 := spec_l1All.mono_l k
    · intro y0 y1 y2 y3 y4
      unfold spec_l1All.l0
      repeat' first
      | (with_reducible exact ih0 _ _ _ _ _)
      | (with_reducible exact LeO.refl _)
      | (with_reducible exact LeO.none _)
      | (with_reducible refine LeO.ite ?_ ?_)
      | (with_reducible refine LeO.bind ?_ (fun _ => ?_))
      | exact ih0 _ _ _ _ _
      | exact LeO.none _
      | refine LeO.ite ?_ ?_
      | refine LeO.bind ?_ (fun _ => ?_)
theorem spec_l1All.mono : ∀ a0 a1 a2 k, LeO (spec_l1All.f k a0 a1 a2) (spec_l1All.f (k + 1) a0 a1 a2) := by
  intro a0 a1 a2 k
  have ih0 := spec_l1All.mono_l k
  unfold spec_l1All.f
  repeat' first
      | (with_reducible exact ih0 _ _ _ _ _)
      | (with_reducible exact LeO.refl _)
      | (with_reducible exact LeO.none _)
      | (with_reducible refine LeO.ite ?_ ?_)
      | (with_reducible refine LeO.bind ?_ (fun _ => ?_))
      | exact ih0 _ _ _ _ _
      | exact LeO.none _
      | refine LeO.ite ?_ ?_
      | refine LeO.bind ?_ (fun _ => ?_)
set_option maxHeartbeats 8000000 in
set_option maxRecDepth 100000 in
theorem spec_l1All.calls (k : Nat) (A0 : Option Addr) (c0 : Nat) (l0 : List Int) (a1 : Int) (a2 : Int) (r : Bool) (w : World) (hr0 : Kd.C (Kd.int .i64) w A0 l0.length l0) (hc0 : l0.length ≤ c0) (h : spec_l1All.f k l0 a1 a2 = some r) :
    Calls Try.prog 87 #[.slice A0 l0.length c0, .int .i64 a1, .int .i64 a2] w fun e w' => e = .returned (.bool r) ∧ Drawn0 w w' := by
  have HR0 := Aside0.mk hr0
  have HC0 := Aside0.mk hc0
  clear hr0 hc0
  have H : (spec_l1All.l0 k a1 a2 l0 (l0.length : Int) 0) = some r := h
  clear h
  have H' := Aside0.mk H
  clear H
  go_enter Try.func87, Try.ntmps87
  go_wp2
  go_loopg [11] k (fun kq v11 w' => ∃ (x11_1 : Int), v11 = .int .i64 x11_1 ∧ Aside0 (spec_l1All.l0 kq a1 a2 l0 (l0.length : Int) x11_1 = some r) ∧ Aside0 (kq ≤ k) ∧ Drawn0 w w')
  case atStart => exact ⟨(0), (by first | rfl | (simp; done) | (simp [*]; done)), H', ⟨Nat.le_refl _⟩, by repeat (first | exact Drawn0.refl _ | apply Drawn0.step)⟩
  case round =>
    clear H'
    try clear p2
    obtain ⟨x11_1, rfl, HA, HK1, ⟨m1, rfl⟩⟩ := hrel
    cases gk with
    | zero => exact absurd HA.out (by simp [spec_l1All.l0])
    | succ k1 =>
      have H := HA.out
      clear HA
      simp only [spec_l1All.l0] at H
      by_cases c4 : x11_1 < (l0.length : Int)
      · rw [if_pos c4] at H
        have c4b0 : decide (x11_1 < (l0.length : Int)) = true := decide_eq_true c4
        clear c4
        by_cases c5 : 0 ≤ x11_1
        · rw [if_pos c5] at H
          have c5b0 : decide (0 ≤ x11_1) = true := decide_eq_true c5
          clear c5
          by_cases c6 : x11_1 < (l0.length : Int)
          · rw [if_pos c6] at H
            have c6b0 : decide (x11_1 < (l0.length : Int)) = true := decide_eq_true c6
            clear c6
            replace H := Option.bind_eq_some_iff.mp H
            obtain ⟨t211, A70, H⟩ := H
            replace H : (if t211 = true then (spec_l1All.l0 k1 a1 a2 l0 (l0.length : Int) (wrap64 (x11_1 + 1))) else (some false)) = some r := H
            have A7 := Aside0.mk A70
            clear A70
            by_cases c8 : t211 = true
            · subst c8
              have H1 : (spec_l1All.l0 k1 a1 a2 l0 (l0.length : Int) (wrap64 (x11_1 + 1))) = some r := by rw [if_pos rfl] at H; exact H
              clear H
              have H := H1
              clear H1
              have H' := Aside0.mk H
              clear H
              have p210 : 0 ≤ (x11_1 : Int) := of_decide_eq_true (by first | (with_reducible assumption) | assumption)
              have q210 : x11_1 < (l0.length : Int) := of_decide_eq_true (by first | (with_reducible assumption) | assumption)
              obtain ⟨ad210, e210, hx210_0⟩ := Kd.at_int HR0.out x11_1 p210 q210
              cases e210
              replace p210 := eq_true p210
              replace q210 := eq_true q210
              go_wp2_with (first | ((with_reducible refine gate_callee (f := 52) rfl ?_); refine goesL_ (some 18) rfl rfl Try.func52 (by kernel_rfl) rfl #[.int .i64 (rd l0 x11_1), .int .i64 a1, .int .i64 a2] rfl (by (try simp only [List.map_toArray, List.map_cons, List.map_nil]); first | done | rfl | (simp only [List.length_drop, List.length_take]; rfl)) ?_; (with_reducible refine (spec_l1In.calls (rd l0 x11_1) a1 a2 true _ A7.out).mono ?_); rintro e w' ⟨rfl, ⟨nd, rfl⟩⟩; refine ⟨_, rfl, ?_⟩))
              go_roundg k1
              case measure => have := HK1.out; omega
              case rel => exact ⟨(wrap64 (x11_1 + 1)), (by first | rfl | (simp; done) | (simp [*]; done)), H', ⟨by have := HK1.out; omega⟩, by repeat (first | exact Drawn0.refl _ | apply Drawn0.step)⟩
            · replace c8 := Bool.eq_false_iff.mpr c8
              subst c8
              have H1 : (some false) = some r := by rw [if_neg (show ¬ (false = true) by decide)] at H; exact H
              clear H
              have H := H1
              clear H1
              obtain rfl := Option.some.inj H
              have p210 : 0 ≤ (x11_1 : Int) := of_decide_eq_true (by first | (with_reducible assumption) | assumption)
              have q210 : x11_1 < (l0.length : Int) := of_decide_eq_true (by first | (with_reducible assumption) | assumption)
              obtain ⟨ad210, e210, hx210_0⟩ := Kd.at_int HR0.out x11_1 p210 q210
              cases e210
              replace p210 := eq_true p210
              replace q210 := eq_true q210
              go_wp2_with (first | ((with_reducible refine gate_callee (f := 52) rfl ?_); refine goesL_ (some 18) rfl rfl Try.func52 (by kernel_rfl) rfl #[.int .i64 (rd l0 x11_1), .int .i64 a1, .int .i64 a2] rfl (by (try simp only [List.map_toArray, List.map_cons, List.map_nil]); first | done | rfl | (simp only [List.length_drop, List.length_take]; rfl)) ?_; (with_reducible refine (spec_l1In.calls (rd l0 x11_1) a1 a2 false _ A7.out).mono ?_); rintro e w' ⟨rfl, ⟨nd, rfl⟩⟩; refine ⟨_, rfl, ?_⟩))
              go_ret
              exact ⟨by first | rfl | (simp; done) | (simp [*]; done), by repeat (first | exact Drawn0.refl _ | apply Drawn0.step)⟩
          · rw [if_neg c6] at H
            exact absurd H (by simp)
        · rw [if_neg c5] at H
          exact absurd H (by simp)
      · rw [if_neg c4] at H
        have c4b0 : decide (x11_1 < (l0.length : Int)) = false := decide_eq_false c4
        clear c4
        obtain rfl := Option.some.inj H
        go_wp2
        go_ret
        exact ⟨by first | rfl | (simp; done) | (simp [*]; done), by repeat (first | exact Drawn0.refl _ | apply Drawn0.step)⟩
end Go.Proofs.Ytpcehliabaakeaa.L
end
section
namespace Go.Proofs.Ytpcehliabaakeaa.M
open Go.RowKit Go.Proofs.YtpcehliabaakeaaW.PrintWords Go.Proofs.YtpcehliabaakeaaW.PrintLast Go.Proofs.YtpcehliabaakeaaW.PrintMore Go.Proofs.Ytpcehliabaakeaa.L
theorem toIntS_l0 (l : List Int) (hl : l.length ≤ 35184372088832) : ∀ (d i : Nat) (acc : List Int), i + d = l.length → acc.length = l.length → Ev (fun k => laws_toIntS.l0 k l acc i) (acc.take i ++ l.drop i)
  | 0, i, acc, h, ha => by
    have h1 : ¬ ((i : Int) < (l.length : Int)) := by omega
    refine Ev.step (fun _ => rfl) (ev_neg h1 ?_)
    rw [List.take_of_length_le (by omega), List.drop_of_length_le (by omega), List.append_nil]
    exact Ev.now _
  | d + 1, i, acc, h, ha => by
    have h1 : (i : Int) < (l.length : Int) := by omega
    refine Ev.step (fun _ => rfl) (ev_pos h1 (ev_pos (by omega) (ev_pos (by omega) ?_)))
    rw [wrap_succ (by omega), rd_get (by omega : i < l.length), Int.toNat_natCast]
    have ih := toIntS_l0 l hl d (i + 1) (acc.set i l[i]) (by omega) (by simp [ha])
    have e : (acc.set i l[i]).take (i + 1) ++ l.drop (i + 1) = acc.take i ++ l.drop i := by
      rw [List.take_succ_eq_append_getElem (by simp; omega), List.getElem_set_self, List.drop_eq_getElem_cons (by omega : i < l.length)]
      simp [List.take_set_of_le]
    rw [← e]; exact ih
theorem toIntS_ev (l : List Int) (hl : l.length ≤ 35184372088832) : Ev (fun k => laws_toIntS.f k l) l := by
  have h := toIntS_l0 l hl l.length 0 (List.replicate l.length 0) (by omega) (by simp)
  exact ev_pos (by omega) (ev_pos (by simpa using hl) (by simpa using h))
theorem eqIntS_l0 (a b : List Int) (hl : a.length ≤ 9223372036854775806) (hab : a.length = b.length) : ∀ (d i : Nat), i + d = a.length → Ev (fun k => laws_eqIntS.l0 k a b i) (decide (a.drop i = b.drop i))
  | 0, i, h => by
    have h1 : ¬ ((i : Int) < (a.length : Int)) := by omega
    refine Ev.step (fun _ => rfl) (ev_neg h1 ?_)
    rw [List.drop_of_length_le (by omega), List.drop_of_length_le (by omega)]
    exact Ev.now _
  | d + 1, i, h => by
    have h1 : (i : Int) < (a.length : Int) := by omega
    refine Ev.step (fun _ => rfl) (ev_pos h1 (ev_pos (by omega) (ev_pos (by omega) ?_)))
    rw [wrap_succ (by omega), rd_get (by omega : i < a.length), rd_get (by omega : i < b.length)]
    rw [List.drop_eq_getElem_cons (by omega : i < a.length), List.drop_eq_getElem_cons (by omega : i < b.length)]
    refine ev_ite (fun e => ?_) (fun e => ?_)
    · rw [decide_eq_decide.mpr (show (a[i] :: a.drop (i + 1) = b[i] :: b.drop (i + 1)) ↔ a.drop (i + 1) = b.drop (i + 1) by rw [List.cons.injEq]; exact ⟨fun z => z.2, fun z => ⟨e, z⟩⟩)]
      exact eqIntS_l0 a b hl hab d (i + 1) (by omega)
    · rw [decide_eq_false (show ¬ (a[i] :: a.drop (i + 1) = b[i] :: b.drop (i + 1)) by rw [List.cons.injEq]; exact fun z => e z.1)]
      exact Ev.now false
theorem eqIntS_ev (a b : List Int) (hl : a.length ≤ 9223372036854775806) : Ev (fun k => laws_eqIntS.f k a b) (decide (a = b)) := by
  refine ev_ite (fun e => ?_) (fun e => ?_)
  · simpa using eqIntS_l0 a b hl (by omega) a.length 0 (by omega)
  · have : ¬ a = b := fun z => e (by rw [z])
    simpa [this] using Ev.now false
def marks (q : Nat) (n : Nat) : List Int := (List.range' q n).map Int.ofNat
theorem marks_len (q n : Nat) : (marks q n).length = n := by simp [marks]
theorem marks_get (q n i : Nat) (h : i < (marks q n).length) : (marks q n)[i] = ((q + i : Nat) : Int) := by simp [marks]
theorem markIntS_l0 (n : Nat) (hn : n ≤ 4611686018427387903) (q : Nat) (hq : q ≤ 4611686018427387903) : ∀ (d i : Nat) (acc : List Int), i + d = n → acc.length = n → (∀ j (hj : j < acc.length), j < i → acc[j] = ((q + j : Nat) : Int)) →
    Ev (fun k => laws_markIntS.l0 k acc ((q + i : Nat) : Int) i) (((q + n : Nat) : Int), marks q n)
  | 0, i, acc, h, ha, hm => by
    have h1 : ¬ ((i : Int) < (acc.length : Int)) := by omega
    refine Ev.step (fun _ => rfl) (ev_neg h1 ?_)
    have e : acc = marks q n := List.ext_getElem (by rw [ha, marks_len]) (fun j h1 h2 => by rw [hm j h1 (by omega), marks_get])
    have e2 : i = n := by omega
    rw [e, e2]; exact Ev.now _
  | d + 1, i, acc, h, ha, hm => by
    have h1 : (i : Int) < (acc.length : Int) := by omega
    refine Ev.step (fun _ => rfl) (ev_pos h1 (ev_pos (by omega) ?_))
    rw [wrap_succ (by omega), wrap_succ (by omega), Int.toNat_natCast]
    refine markIntS_l0 n hn q hq d (i + 1) (acc.set i ((q + i : Nat) : Int)) (by omega) (by simp [ha]) (fun j hj hji => ?_)
    by_cases e : j = i
    · subst e; simp
    · rw [List.getElem_set_ne (by omega)]; exact hm j _ (by omega)
theorem markIntS_ev (l : List Int) (q : Nat) (hl : l.length ≤ 4611686018427387903) (hq : q ≤ 4611686018427387903) : Ev (fun k => laws_markIntS.f k l (q : Int)) (((q + l.length : Nat) : Int), marks q l.length) :=
  markIntS_l0 l.length hl q hq l.length 0 l (by omega) rfl (fun j _ h => by omega)
theorem heldIntS_l0 (q n : Nat) (hn : n ≤ 4611686018427387903) (hq : q ≤ 4611686018427387903) : ∀ (d i : Nat), i + d = n → Ev (fun k => laws_heldIntS.l0 k (marks q n) ((q + i : Nat) : Int) i) ((q + n : Nat) : Int)
  | 0, i, h => by
    have hm := marks_len q n
    have h1 : ¬ ((i : Int) < ((marks q n).length : Int)) := by omega
    refine Ev.step (fun _ => rfl) (ev_neg h1 ?_)
    have e2 : i = n := by omega
    rw [e2]; exact Ev.now _
  | d + 1, i, h => by
    have hm := marks_len q n
    have h1 : (i : Int) < ((marks q n).length : Int) := by omega
    refine Ev.step (fun _ => rfl) (ev_pos h1 (ev_pos (by omega) (ev_pos ?_ ?_)))
    · rw [rd_get (by omega), marks_get]
    · rw [wrap_succ (by omega), wrap_succ (by omega)]
      exact heldIntS_l0 q n hn hq d (i + 1) (by omega)
theorem heldIntS_ev (q n : Nat) (hn : n ≤ 4611686018427387903) (hq : q ≤ 4611686018427387903) : Ev (fun k => laws_heldIntS.f k (marks q n) (q : Int)) ((q + n : Nat) : Int) :=
  heldIntS_l0 q n hn hq n 0 (by omega)
end Go.Proofs.Ytpcehliabaakeaa.M
end
section
namespace Go.Proofs.Ytpcehliabaakeaa.M
open Go.RowKit Go.Proofs.YtpcehliabaakeaaW.PrintWords Go.Proofs.YtpcehliabaakeaaW.PrintLast Go.Proofs.YtpcehliabaakeaaW.PrintMore Go.Proofs.Ytpcehliabaakeaa.L
theorem l1In_eq (x lo hi : Int) : spec_l1In.f x lo hi = some (inB x lo hi) := by
  unfold spec_l1In.f inB
  by_cases h : lo ≤ x <;> simp [h]
theorem within_eq (x lo hi : Int) : impl_within.f x lo hi = some (inB x lo hi) := by
  unfold impl_within.f inB
  by_cases h : lo ≤ x <;> simp [h]
end Go.Proofs.Ytpcehliabaakeaa.M
end
section
namespace Go.Proofs.Ytpcehliabaakeaa.M
open Go.RowKit Go.Proofs.YtpcehliabaakeaaW.PrintWords Go.Proofs.YtpcehliabaakeaaW.PrintLast Go.Proofs.YtpcehliabaakeaaW.PrintMore Go.Proofs.Ytpcehliabaakeaa.L
set_option linter.unusedVariables false
theorem has_eq {s e : Nat} (hs : s < 2 ^ 63) (he : e ≤ 64) : impl_has.f (s : Int) (e : Int) = some (s.testBit e) := by
  unfold impl_has.f; rw [if_pos (by omega), bit_and hs he]
theorem poIn_eq {s e : Nat} (he : e ≤ 64) : spec_poIn.f (s : Int) (e : Int) = some (s.testBit e) := by
  unfold spec_poIn.f; rw [if_pos (by omega), bit_mod he]
theorem items_l0 (s : Nat) (hs : s < 2 ^ 63) : ∀ (d i : Nat) (acc : List Nat), i + d = 10 → acc.length ≤ i → Ev (fun k => impl_items.l0 k (s : Int) (toI acc) (i : Int)) (toI (acc ++ (List.range' i d).filter fun e => s.testBit e))
  | 0, i, acc, h, ha => by
    refine Ev.step (fun _ => impl_items.l0.eq_2 ..) (ev_neg (by omega) ?_)
    simpa using Ev.now _
  | d + 1, i, acc, h, ha => by
    refine Ev.step (fun _ => impl_items.l0.eq_2 ..) (ev_pos (by omega) (ev_call (has_eq hs (by omega)) ?_))
    rw [wrap_succ (by omega), List.range'_succ]
    refine ev_ite (fun e => ev_pos (by rw [toI_len]; omega) ?_) (fun e => ?_)
    · rw [← toI_one, ← toI_app, List.filter_cons_of_pos e]
      have := items_l0 s hs d (i + 1) (acc ++ [i]) (by omega) (by simp; omega)
      simpa using this
    · rw [List.filter_cons_of_neg e]
      exact items_l0 s hs d (i + 1) acc (by omega) (by omega)
theorem items_ev {s : Nat} (hs : s < 2 ^ 63) : Ev (fun k => impl_items.f k (s : Int)) (toI (items s)) := by
  have h := items_l0 s hs 10 0 [] (by omega) (by simp)
  rw [List.nil_append, ← List.range_eq_range'] at h
  exact h
theorem n_eq (l : List Int) : impl_Poset_n.f l = some (l.length : Int) := rfl
theorem items_all {m i : Nat} (hm : m < 2 ^ i) (hi : i ≤ 10) (g : Nat → Bool) : (items m).all g = (List.range i).all fun j => !(m.testBit j) || g j := by
  rw [Bool.eq_iff_iff]
  simp only [List.all_eq_true, mem_items, List.mem_range, Bool.or_eq_true, Bool.not_eq_true']
  constructor
  · intro h j hj
    cases hb : m.testBit j
    · exact .inl rfl
    · exact .inr (h j ⟨by omega, hb⟩)
  · rintro h j ⟨_, hb⟩
    rcases h j (bit_lt hm hb) with h2 | h2
    · rw [hb] at h2; cases h2
    · exact h2
theorem pow_small {i : Nat} (h : i ≤ 10) : 2 ^ i ≤ 1024 := by
  have := Nat.pow_le_pow_right (n := 2) (by decide) h
  simpa using this
theorem rd_getD (l : List Int) (i : Nat) : rd l (i : Int) = l.getD i 0 := by simp [rd]
theorem isPoset_l1 (l : List Int) (i m : Nat) (R : Bool) (hl : l.length ≤ 10) (hi : i < l.length) (hm : m < 2 ^ i) (ok : ∀ j, j < i → ∃ a : Nat, l.getD j 0 = (a : Int) ∧ a < 2 ^ j)
    (hR : Ev (fun k => impl_IsPoset.l0 k l (l.length : Int) ((i + 1 : Nat) : Int) l) R) : ∀ (d q : Nat), q + d = (items m).length →
    Ev (fun k => impl_IsPoset.l1 k (m : Int) l (l.length : Int) (i : Int) (toI (items m)) ((toI (items m)).length : Int) (q : Int) l) (((items m).drop q).all (fun j => sd (l.getD j 0).toNat m == 0) && R)
  | 0, q, h => by
    refine Ev.step (fun _ => impl_IsPoset.l1.eq_2 ..) (ev_neg (by rw [toI_len]; omega) ?_)
    rw [List.drop_of_length_le (by omega), List.all_nil, Bool.true_and, wrap_succ (by omega)]
    exact hR
  | d + 1, q, h => by
    have hq : q < (items m).length := by omega
    have hj : (items m)[q] ∈ items m := List.getElem_mem hq
    obtain ⟨_, hb⟩ := mem_items.mp hj
    have hji := bit_lt hm hb
    obtain ⟨a, ha, ha2⟩ := ok _ hji
    have e1 : rd (toI (items m)) (q : Int) = (((items m)[q] : Nat) : Int) := by rw [rd_toI]; simp [List.getD_eq_getElem?_getD, hq]
    have hlen := items_len m
    have hp1 := pow_small (show i ≤ 10 by omega)
    have hp2 := pow_small (show (items m)[q] ≤ 10 by omega)
    refine Ev.step (fun _ => impl_IsPoset.l1.eq_2 ..) ?_
    rw [e1]
    refine ev_pos (by rw [toI_len]; omega) (ev_pos (by omega) (ev_pos (by rw [toI_len]; omega) (ev_pos (by omega) (ev_pos (by omega) ?_))))
    rw [rd_getD, ha, bits_andNot (lt63 ha2 (by omega)) (lt63 hm (by omega)), wrap_succ (by omega), List.drop_eq_getElem_cons hq, List.all_cons, ha, Int.toNat_natCast]
    refine ev_ite (fun e => ?_) (fun e => ?_)
    · have e' : sd a m = 0 := by omega
      rw [e', beq_self_eq_true, Bool.true_and]
      exact isPoset_l1 l i m R hl hi hm ok hR d (q + 1) (by omega)
    · have e' : (sd a m == 0) = false := by rw [beq_eq_false_iff_ne]; omega
      rw [e', Bool.false_and, Bool.false_and]
      exact Ev.now _
theorem isPoset_l0 (l : List Int) (hl : l.length ≤ 10) : ∀ (d i : Nat), i + d = l.length → (∀ j, j < i → ∃ a : Nat, l.getD j 0 = (a : Int) ∧ a < 2 ^ j) →
    Ev (fun k => impl_IsPoset.l0 k l (l.length : Int) (i : Int) l) ((List.range' i d).all (okAt l))
  | 0, i, h, ok => by
    refine Ev.step (fun _ => impl_IsPoset.l0.eq_2 ..) (ev_neg (by omega) ?_)
    exact Ev.now _
  | d + 1, i, h, ok => by
    have hp1 := pow_small (show i ≤ 10 by omega)
    have hpos := Nat.two_pow_pos i
    refine Ev.step (fun _ => impl_IsPoset.l0.eq_2 ..) (ev_pos (by omega) (ev_pos (by omega) (ev_pos (by omega) (ev_call (within_eq _ _ _) ?_))))
    rw [rd_getD, shl_one' (by omega), List.range'_succ, List.all_cons, okAt_def l i]
    refine ev_ite (fun e => ?_) (fun e => ?_)
    · have b := inB_iff.mp e
      obtain ⟨m, hm⟩ : ∃ m : Nat, l.getD i 0 = (m : Int) := ⟨(l.getD i 0).toNat, by omega⟩
      rw [e, Bool.true_and, hm]
      have hm2 : m < 2 ^ i := by omega
      refine Ev.bind (items_ev (lt63 hm2 (by omega))) ?_
      have hnx := isPoset_l0 l hl d (i + 1) (by omega) (fun j hj => by
        by_cases hji : j = i
        · subst hji; exact ⟨m, hm, hm2⟩
        · exact ok j (by omega))
      have := isPoset_l1 l i m _ hl (by omega) hm2 ok hnx (items m).length 0 (by omega)
      rw [List.drop_zero, items_all hm2 (by omega)] at this
      simpa using this
    · rw [Bool.eq_false_iff.mpr e, Bool.false_and, Bool.false_and]
      exact Ev.now _
theorem isPoset_ev (l : List Int) : Ev (fun k => impl_IsPoset.f k l) (goodB l) := by
  refine ev_call (n_eq l) (ev_call (within_eq _ _ _) ?_)
  unfold goodB
  refine ev_ite (fun e => ?_) (fun e => ?_)
  · have b := inB_iff.mp e
    rw [e, Bool.true_and]
    exact isPoset_l0 l (by omega) l.length 0 (by omega) (fun j hj => by omega)
  · rw [Bool.eq_false_iff.mpr e, Bool.false_and]; exact Ev.now _
theorem poGood_l1 (l : List Int) (i m : Nat) (R : Bool) (hl : l.length ≤ 10) (hi : i < l.length) (hm : m < 2 ^ i) (ok : ∀ j, j < i → ∃ a : Nat, l.getD j 0 = (a : Int) ∧ a < 2 ^ j)
    (hR : Ev (fun k => spec_poGood.l0 k l (l.length : Int) ((i + 1 : Nat) : Int) l) R) : ∀ (d j : Nat), j + d = i →
    Ev (fun k => spec_poGood.l1 k (i : Int) (m : Int) (j : Int) l (l.length : Int) (i : Int) l) ((List.range' j d).all (fun j => !(m.testBit j) || sd (l.getD j 0).toNat m == 0) && R)
  | 0, j, h => by
    refine Ev.step (fun _ => spec_poGood.l1.eq_2 ..) (ev_neg (by omega) ?_)
    rw [wrap_succ (by omega)]
    simpa using hR
  | d + 1, j, h => by
    obtain ⟨a, ha, ha2⟩ := ok j (by omega)
    have hp1 := pow_small (show i ≤ 10 by omega)
    have hp2 := pow_small (show j ≤ 10 by omega)
    have ih := poGood_l1 l i m R hl hi hm ok hR d (j + 1) (by omega)
    refine Ev.step (fun _ => spec_poGood.l1.eq_2 ..) (ev_pos (by omega) (ev_pos (by omega) ?_))
    rw [wrap_succ (by omega), List.range'_succ, List.all_cons, rd_getD, ha, bits_andNot (lt63 ha2 (by omega)) (lt63 hm (by omega)), Int.toNat_natCast]
    refine ev_ite (fun e => ?_) (fun e => ?_)
    · rw [bit_mod' (by omega)] at e
      rw [e, Bool.not_true, Bool.false_or]
      refine ev_pos (by omega) (ev_ite (fun e => ?_) (fun e => ?_))
      · have e' : sd a m = 0 := by omega
        rw [e', beq_self_eq_true, Bool.true_and]; exact ih
      · have e' : (sd a m == 0) = false := by rw [beq_eq_false_iff_ne]; omega
        rw [e', Bool.false_and, Bool.false_and]; exact Ev.now _
    · rw [bit_mod' (by omega)] at e
      rw [Bool.eq_false_iff.mpr e, Bool.not_false, Bool.true_or, Bool.true_and]; exact ih
theorem poGood_l0 (l : List Int) (hl : l.length ≤ 10) : ∀ (d i : Nat), i + d = l.length → (∀ j, j < i → ∃ a : Nat, l.getD j 0 = (a : Int) ∧ a < 2 ^ j) →
    Ev (fun k => spec_poGood.l0 k l (l.length : Int) (i : Int) l) ((List.range' i d).all (okAt l))
  | 0, i, h, ok => by
    refine Ev.step (fun _ => spec_poGood.l0.eq_2 ..) (ev_neg (by omega) ?_)
    exact Ev.now _
  | d + 1, i, h, ok => by
    have hp1 := pow_small (show i ≤ 10 by omega)
    have hpos := Nat.two_pow_pos i
    refine Ev.step (fun _ => spec_poGood.l0.eq_2 ..) (ev_pos (by omega) (ev_pos (by omega) (ev_pos (by omega) (ev_call (l1In_eq _ _ _) ?_))))
    rw [rd_getD, shl_one' (by omega), List.range'_succ, List.all_cons, okAt_def l i]
    refine ev_ite (fun e => ?_) (fun e => ?_)
    · have b := inB_iff.mp e
      obtain ⟨m, hm⟩ : ∃ m : Nat, l.getD i 0 = (m : Int) := ⟨(l.getD i 0).toNat, by omega⟩
      rw [e, Bool.true_and, hm]
      have hm2 : m < 2 ^ i := by omega
      have hnx := poGood_l0 l hl d (i + 1) (by omega) (fun j hj => by
        by_cases hji : j = i
        · subst hji; exact ⟨m, hm, hm2⟩
        · exact ok j (by omega))
      have := poGood_l1 l i m _ hl (by omega) hm2 ok hnx i 0 (by omega)
      simpa [List.range_eq_range'] using this
    · rw [Bool.eq_false_iff.mpr e, Bool.false_and, Bool.false_and]
      exact Ev.now _
theorem poGood_ev (l : List Int) : Ev (fun k => spec_poGood.f k l) (goodB l) := by
  refine ev_call (l1In_eq _ _ _) ?_
  unfold goodB
  refine ev_ite (fun e => ?_) (fun e => ?_)
  · have b := inB_iff.mp e
    rw [e, Bool.true_and]
    exact poGood_l0 l (by omega) l.length 0 (by omega) (fun j hj => by omega)
  · rw [Bool.eq_false_iff.mpr e, Bool.false_and]; exact Ev.now _
end Go.Proofs.Ytpcehliabaakeaa.M
end
section
namespace Go.Proofs.Ytpcehliabaakeaa.M
open Go.RowKit Go.Proofs.YtpcehliabaakeaaW.PrintWords Go.Proofs.YtpcehliabaakeaaW.PrintLast Go.Proofs.YtpcehliabaakeaaW.PrintMore Go.Proofs.Ytpcehliabaakeaa.L
set_option linter.unusedVariables false
theorem toNat_toI (p : List Nat) : (toI p).map Int.toNat = p := by
  simp only [toI, List.map_map]
  exact (List.map_congr_left (fun x _ => by simp)).trans (List.map_id p)
theorem Good.len63 {p : List Nat} (g : Good p) {s : Nat} (h : s < 2 ^ p.length) : s < 2 ^ 63 := M.lt63 h (by have := g.le; omega)
theorem items_get {m q : Nat} (hq : q < (items m).length) : (items m)[q] < 10 ∧ m.testBit (items m)[q] = true := mem_items.mp (List.getElem_mem hq)
theorem rd_items {m q : Nat} (hq : q < (items m).length) : rd (toI (items m)) (q : Int) = (((items m)[q] : Nat) : Int) := by rw [rd_toI]; simp [List.getD_eq_getElem?_getD, hq]
end Go.Proofs.Ytpcehliabaakeaa.M
end
section
namespace Go.Proofs.Ytpcehliabaakeaa.M
open Go.RowKit Go.Proofs.YtpcehliabaakeaaW.PrintWords Go.Proofs.YtpcehliabaakeaaW.PrintLast Go.Proofs.YtpcehliabaakeaaW.PrintMore Go.Proofs.Ytpcehliabaakeaa.L
set_option linter.unusedVariables false
def stepH (p : List Nat) (a : List Nat) (i : Nat) : Nat := foldBits i (less p i) (fun m e => max m (a.getD e 0 + 1)) 0
def hs (p : List Nat) : Nat → List Nat
  | 0 => []
  | i + 1 => hs p i ++ [stepH p (hs p i) i]
theorem hs_len (p : List Nat) : ∀ i, (hs p i).length = i
  | 0 => rfl
  | i + 1 => by simp [hs, hs_len p i]
def ht (p : List Nat) : List Nat := hs p p.length
theorem ht_len (p : List Nat) : (ht p).length = p.length := hs_len p _
def hh (p : List Nat) (i : Nat) : Nat := (ht p).getD i 0
theorem hs_le (p : List Nat) : ∀ i e, (hs p i).getD e 0 ≤ e
  | 0, e => by simp [hs]
  | i + 1, e => by
    rw [hs]
    by_cases h : e < i
    · have := hs_le p i e
      simpa [List.getD_eq_getElem?_getD, List.getElem?_append_left (by rw [hs_len]; exact h : e < (hs p i).length)] using this
    · by_cases h2 : e = i
      · subst h2
        have : (hs p e ++ [stepH p (hs p e) e]).getD e 0 = stepH p (hs p e) e := by
          rw [List.getD_eq_getElem?_getD, List.getElem?_append_right (by rw [hs_len]; exact Nat.le_refl _)]
          simp [hs_len]
        rw [this]
        refine foldBits_inv _ _ _ _ (· ≤ e) (Nat.zero_le _) (fun a x ha hx _ => ?_)
        have := hs_le p e x
        omega
      · rw [List.getD_eq_getElem?_getD, List.getElem?_eq_none (by simp [hs_len]; omega)]
        exact Nat.zero_le _
theorem hh_le (p : List Nat) (i : Nat) : hh p i ≤ i := hs_le p _ i
theorem getD_app_l {a b : List Nat} {e : Nat} (h : e < a.length) : (a ++ b).getD e 0 = a.getD e 0 := by
  simp [List.getD_eq_getElem?_getD, List.getElem?_append_left h]
theorem getD_app_at {a b : List Nat} {m : Nat} : (a ++ m :: b).getD a.length 0 = m := by
  simp [List.getD_eq_getElem?_getD]
theorem set_app_at {a b : List Nat} {m x : Nat} : (a ++ m :: b).set a.length x = a ++ x :: b := by simp
theorem mx_nat (a b : Nat) : mx (a : Int) (b : Int) = ((max a b : Nat) : Int) := by unfold mx; split <;> omega
theorem implHeights_l1' {p : List Nat} (g : Good p) (i : Nat) (hi : i < p.length) (a z : List Nat) (ha : a.length = i) (hz : i + 1 + z.length = p.length) (hb : ∀ e, a.getD e 0 ≤ e) (r : List Int) : ∀ (d q m : Nat), q + d = (items (less p i)).length →
    m ≤ i → Ev (fun k => impl_Poset_heights.l0 k (toI (a ++ ((items (less p i)).drop q).foldl (fun m e => max m (a.getD e 0 + 1)) m :: z)) (toI p) ((toI p).length : Int) ((i + 1 : Nat) : Int)) r →
    Ev (fun k => impl_Poset_heights.l1 k (toI (a ++ m :: z)) (i : Int) (toI p) ((toI p).length : Int) (i : Int) (toI (items (less p i))) ((toI (items (less p i))).length : Int) (q : Int)) r
  | 0, q, m, h, hm, c => by
    have := g.le
    refine Ev.step (fun _ => impl_Poset_heights.l1.eq_2 ..) (ev_neg (by rw [toI_len]; omega) ?_)
    rw [wrap_succ (by omega)]
    rw [List.drop_of_length_le (by omega)] at c; exact c
  | d + 1, q, m, h, hm, c => by
    have gl := g.le
    have hq : q < (items (less p i)).length := by omega
    have hmm := items_get hq
    have hbit := g.bit hmm.2
    have hl := items_len (less p i)
    have hx := hb (items (less p i))[q]
    refine Ev.step (fun _ => impl_Poset_heights.l1.eq_2 ..) ?_
    rw [rd_items hq]
    refine ev_pos (by rw [toI_len]; omega) (ev_pos (by omega) (ev_pos (by rw [toI_len]; omega) (ev_pos (by omega) (ev_pos (by rw [toI_len]; simp; omega) (ev_pos (by omega) (ev_pos (by rw [toI_len]; simp; omega) ?_))))))
    have e1 : rd (toI (a ++ m :: z)) (i : Int) = (m : Int) := by rw [rd_toI, ← ha, getD_app_at]
    have e2 : rd (toI (a ++ m :: z)) (((items (less p i))[q] : Nat) : Int) = ((a.getD (items (less p i))[q] 0 : Nat) : Int) := by rw [rd_toI, getD_app_l (by omega)]
    rw [e1, e2, wrap_succ (by omega), wrap_succ (by omega), mx_nat, Int.toNat_natCast, toI_set]
    have e3 : ∀ x, (a ++ m :: z).set i x = a ++ x :: z := fun x => by rw [← ha]; exact set_app_at
    rw [e3]
    refine implHeights_l1' g i hi a z ha hz hb r d (q + 1) _ (by omega) (by omega) ?_
    rw [List.drop_eq_getElem_cons hq, List.foldl_cons] at c; exact c
theorem hs_state {p : List Nat} {i : Nat} (h : i < p.length) : hs p i ++ List.replicate (p.length - i) 0 = hs p i ++ 0 :: List.replicate (p.length - (i + 1)) 0 := by
  rw [show p.length - i = (p.length - (i + 1)) + 1 by omega, List.replicate_succ]
theorem hs_next {p : List Nat} {i : Nat} : hs p i ++ stepH p (hs p i) i :: List.replicate (p.length - (i + 1)) 0 = hs p (i + 1) ++ List.replicate (p.length - (i + 1)) 0 := by
  rw [hs, List.append_assoc]; rfl
theorem implHeights_l0 {p : List Nat} (g : Good p) : ∀ (d i : Nat), i + d = p.length → Ev (fun k => impl_Poset_heights.l0 k (toI (hs p i ++ List.replicate (p.length - i) 0)) (toI p) ((toI p).length : Int) (i : Int)) (toI (ht p))
  | 0, i, h => by
    refine Ev.step (fun _ => impl_Poset_heights.l0.eq_2 ..) (ev_neg (by rw [toI_len]; omega) ?_)
    obtain rfl : i = p.length := by omega
    rw [Nat.sub_self, List.replicate_zero, List.append_nil]; exact Ev.now _
  | d + 1, i, h => by
    have gl := g.le
    refine Ev.step (fun _ => impl_Poset_heights.l0.eq_2 ..) (ev_pos (by rw [toI_len]; omega) (ev_pos (by omega) (ev_pos (by rw [toI_len]; omega) ?_)))
    rw [rd_less]
    refine Ev.bind (items_ev (g.lt63 _)) ?_
    rw [hs_state (by omega)]
    refine implHeights_l1' g i (by omega) _ _ (hs_len p i) (by rw [List.length_replicate]; omega) (hs_le p i) _ _ 0 0 (Nat.zero_add _) (Nat.zero_le _) ?_
    rw [List.drop_zero, foldl_items_n _ _ (g.lt i (by omega)) (by omega)]
    have := implHeights_l0 g d (i + 1) (by omega)
    rw [← hs_next] at this; exact this
theorem implHeights_ev {p : List Nat} (g : Good p) : Ev (fun k => impl_Poset_heights.f k (toI p)) (toI (ht p)) := by
  have gl := g.le
  refine ev_call (n_eq _) (ev_pos (by omega) (ev_pos (by rw [toI_len]; omega) ?_))
  rw [toI_len, Int.toNat_natCast, show (0 : Int) = ((0 : Nat) : Int) from rfl, toI_rep]
  have := implHeights_l0 g p.length 0 (by omega)
  simpa [hs] using this
theorem l1Most_eq (a b : Nat) : spec_l1Most.f (a : Int) (b : Int) = some ((max a b : Nat) : Int) := by
  unfold spec_l1Most.f; split <;> (refine congrArg some ?_; omega)
theorem specHeights_l1 {p : List Nat} (g : Good p) (i : Nat) (hi : i < p.length) (a z : List Nat) (ha : a.length = i) (hz : i + 1 + z.length = p.length) (hb : ∀ e, a.getD e 0 ≤ e) (r : List Int) : ∀ (d e m : Nat), e + d = i →
    m ≤ i → Ev (fun k => spec_poHeights.l0 k (toI (a ++ (List.range' e d).foldl (fun m e => if (less p i).testBit e = true then max m (a.getD e 0 + 1) else m) m :: z)) (toI p) ((toI p).length : Int) ((i + 1 : Nat) : Int)) r →
    Ev (fun k => spec_poHeights.l1 k (toI (a ++ m :: z)) (i : Int) ((less p i : Nat) : Int) (e : Int) (toI p) ((toI p).length : Int) (i : Int)) r
  | 0, e, m, h, hm, c => by
    have := g.le
    refine Ev.step (fun _ => spec_poHeights.l1.eq_2 ..) (ev_neg (by omega) ?_)
    rw [wrap_succ (by omega)]
    exact c
  | d + 1, e, m, h, hm, c => by
    have gl := g.le
    have hx := hb e
    have e1 : rd (toI (a ++ m :: z)) (i : Int) = (m : Int) := by rw [rd_toI, ← ha, getD_app_at]
    have e2 : rd (toI (a ++ m :: z)) (e : Int) = ((a.getD e 0 : Nat) : Int) := by rw [rd_toI, getD_app_l (by omega)]
    rw [List.range'_succ, List.foldl_cons] at c
    refine Ev.step (fun _ => spec_poHeights.l1.eq_2 ..) (ev_pos (by omega) (ev_call (poIn_eq (by omega)) (ev_ite (fun ht => ?_) (fun ht => ?_))))
    · refine ev_pos (by omega) (ev_pos (by rw [toI_len]; simp; omega) (ev_pos (by omega) (ev_pos (by rw [toI_len]; simp; omega) ?_)))
      rw [e1, e2, wrap_succ (by omega)]
      refine ev_call (l1Most_eq _ _) ?_
      rw [Int.toNat_natCast, toI_set, wrap_succ (by omega)]
      have e3 : (a ++ m :: z).set i (max m (a.getD e 0 + 1)) = a ++ max m (a.getD e 0 + 1) :: z := by rw [← ha]; exact set_app_at
      rw [e3]
      rw [if_pos ht] at c
      exact specHeights_l1 g i hi a z ha hz hb r d (e + 1) _ (by omega) (by omega) c
    · rw [wrap_succ (by omega)]
      rw [if_neg ht] at c
      exact specHeights_l1 g i hi a z ha hz hb r d (e + 1) _ (by omega) (by omega) c
theorem specHeights_l0 {p : List Nat} (g : Good p) : ∀ (d i : Nat), i + d = p.length → Ev (fun k => spec_poHeights.l0 k (toI (hs p i ++ List.replicate (p.length - i) 0)) (toI p) ((toI p).length : Int) (i : Int)) (toI (ht p))
  | 0, i, h => by
    refine Ev.step (fun _ => spec_poHeights.l0.eq_2 ..) (ev_neg (by rw [toI_len]; omega) ?_)
    obtain rfl : i = p.length := by omega
    rw [Nat.sub_self, List.replicate_zero, List.append_nil]; exact Ev.now _
  | d + 1, i, h => by
    have gl := g.le
    refine Ev.step (fun _ => spec_poHeights.l0.eq_2 ..) (ev_pos (by rw [toI_len]; omega) (ev_pos (by omega) (ev_pos (by rw [toI_len]; omega) ?_)))
    rw [rd_less, hs_state (by omega)]
    refine specHeights_l1 g i (by omega) _ _ (hs_len p i) (by rw [List.length_replicate]; omega) (hs_le p i) _ i 0 0 (by omega) (Nat.zero_le _) ?_
    have := specHeights_l0 g d (i + 1) (by omega)
    rw [← hs_next] at this
    rw [← List.range_eq_range']; exact this
theorem specHeights_ev {p : List Nat} (g : Good p) : Ev (fun k => spec_poHeights.f k (toI p)) (toI (ht p)) := by
  have gl := g.le
  refine ev_pos (by omega) (ev_pos (by rw [toI_len]; omega) ?_)
  rw [toI_len, Int.toNat_natCast, show (0 : Int) = ((0 : Nat) : Int) from rfl, toI_rep]
  have := specHeights_l0 g p.length 0 (by omega)
  simpa [hs] using this
def covB (p : List Nat) (j i : Nat) : Bool := (less p i).testBit j && (List.range' (j + 1) (i - (j + 1))).all fun k => !((less p i).testBit k && (less p k).testBit j)
def pairs (p : List Nat) : List (List Int) := (List.range p.length).flatMap fun j => ((List.range p.length).filter fun i => covB p j i).map fun i => [((j : Nat) : Int), ((i : Nat) : Int)]
theorem foldSd_bit (p : List Nat) (s a i : Nat) : ∀ n, (foldBits n s (fun o e => sd o (less p e)) a).testBit i = true ↔ (a.testBit i = true ∧ ∀ e, e < n → s.testBit e = true → (less p e).testBit i = false)
  | 0 => by simp [foldBits]
  | n + 1 => by
    rw [foldBits_succ]
    have ih := foldSd_bit p s a i n
    split
    · rename_i hs
      rw [sd_bit, Bool.and_eq_true, ih, Bool.not_eq_true']
      constructor
      · rintro ⟨⟨h1, h2⟩, h3⟩
        refine ⟨h1, fun e he hb => ?_⟩
        by_cases c : e = n
        · subst c; exact h3
        · exact h2 e (by omega) hb
      · rintro ⟨h1, h2⟩
        exact ⟨⟨h1, fun e he hb => h2 e (by omega) hb⟩, h2 n (by omega) hs⟩
    · rename_i hs
      rw [ih]
      constructor
      · rintro ⟨h1, h2⟩
        refine ⟨h1, fun e he hb => ?_⟩
        by_cases c : e = n
        · subst c; exact absurd hb hs
        · exact h2 e (by omega) hb
      · rintro ⟨h1, h2⟩
        exact ⟨h1, fun e he hb => h2 e (by omega) hb⟩
def cov (p : List Nat) (i : Nat) : Nat := foldBits i (less p i) (fun o e => sd o (less p e)) (less p i)
theorem cov_bit {p : List Nat} (g : Good p) (i j : Nat) : (cov p i).testBit j = covB p j i := by
  unfold cov covB
  rw [Bool.eq_iff_iff, foldSd_bit, Bool.and_eq_true, List.all_eq_true]
  constructor
  · rintro ⟨h1, h2⟩
    refine ⟨h1, fun k hk => ?_⟩
    rw [List.mem_range'_1] at hk
    cases hb : (less p i).testBit k
    · rfl
    · rw [h2 k (by omega) hb]; rfl
  · rintro ⟨h1, h2⟩
    refine ⟨h1, fun k hk hb => ?_⟩
    cases hc : (less p k).testBit j
    · rfl
    · have b := g.bit hc
      have := h2 k (by rw [List.mem_range'_1]; omega)
      rw [hb, hc] at this; cases this
theorem covered_l0 {p : List Nat} (g : Good p) (s : Nat) (hs : s < 2 ^ p.length) : ∀ (d q a : Nat), q + d = (items s).length → a < 2 ^ p.length →
    Ev (fun k => impl_Poset_covered.l0 k (a : Int) (toI (items s)) ((toI (items s)).length : Int) (q : Int) (toI p)) (((((items s).drop q).foldl (fun o e => sd o (less p e)) a : Nat)) : Int)
  | 0, q, a, h, ha => by
    refine Ev.step (fun _ => impl_Poset_covered.l0.eq_2 ..) (ev_neg (by rw [toI_len]; omega) ?_)
    rw [List.drop_of_length_le (by omega)]; exact Ev.now _
  | d + 1, q, a, h, ha => by
    have hq : q < (items s).length := by omega
    have hm := items_get hq
    have hb := bit_lt hs hm.2
    have hl := items_len s
    refine Ev.step (fun _ => impl_Poset_covered.l0.eq_2 ..) ?_
    rw [rd_items hq, toI_len, toI_len]
    refine ev_pos (by omega) (ev_pos (by omega) (ev_pos (by omega) (ev_pos (by omega) (ev_pos (by omega) ?_))))
    rw [rd_less, bits_andNot (g.len63 ha) (g.lt63 _), wrap_succ (by omega), List.drop_eq_getElem_cons hq, List.foldl_cons, ← toI_len]
    exact covered_l0 g s hs d (q + 1) _ (by omega) (sd_lt _ ha)
theorem covered_ev {p : List Nat} (g : Good p) {i : Nat} (hi : i < p.length) : Ev (fun k => impl_Poset_covered.f k (toI p) (i : Int)) ((cov p i : Nat) : Int) := by
  refine ev_pos (by omega) (ev_pos (by rw [toI_len]; omega) ?_)
  rw [rd_less]
  refine Ev.bind (items_ev (g.lt63 i)) ?_
  have h := covered_l0 g (less p i) (g.lt10 i) _ 0 (less p i) (Nat.zero_add _) (g.lt10 i)
  rw [List.drop_zero, foldl_items_n _ _ (g.lt i hi) (by have := g.le; omega)] at h
  exact h
def pairsAt (p : List Nat) (j i d : Nat) : List (List Int) := ((List.range' i d).filter fun i => covB p j i).map fun i => [((j : Nat) : Int), ((i : Nat) : Int)]
def pairsTo (p : List Nat) (j d : Nat) : List (List Int) := (List.range' j d).flatMap fun j => pairsAt p j 0 p.length
theorem cov_lt {p : List Nat} (g : Good p) (i : Nat) : cov p i < 2 ^ 63 := g.len63 (foldBits_inv _ _ _ _ (· < 2 ^ p.length) (g.lt10 i) (fun a e ha _ _ => sd_lt _ ha))
theorem implCovers_l1 {p : List Nat} (g : Good p) (j : Nat) (hj : j < p.length) (r : List (List Int)) : ∀ (d i : Nat) (acc : List (List Int)), i + d = p.length → acc.length + d ≤ 1000 →
    Ev (fun k => impl_Poset_covers.l0 k (acc ++ pairsAt p j i d) (p.length : Int) ((j + 1 : Nat) : Int) (toI p)) r →
    Ev (fun k => impl_Poset_covers.l1 k acc (j : Int) (p.length : Int) (j : Int) (p.length : Int) (i : Int) (toI p)) r
  | 0, i, acc, h, ha, c => by
    have gl := g.le
    refine Ev.step (fun _ => impl_Poset_covers.l1.eq_2 ..) (ev_neg (by omega) ?_)
    rw [wrap_succ (by omega)]
    simpa [pairsAt] using c
  | d + 1, i, acc, h, ha, c => by
    have gl := g.le
    refine Ev.step (fun _ => impl_Poset_covers.l1.eq_2 ..) (ev_pos (by omega) (Ev.bind (covered_ev g (by omega)) (ev_call (has_eq (cov_lt g i) (by omega)) ?_)))
    rw [cov_bit g, wrap_succ (by omega)]
    refine ev_ite (fun e => ?_) (fun e => ?_)
    · refine ev_pos (by omega) (implCovers_l1 g j hj r d (i + 1) _ (by omega) (by simp; omega) ?_)
      rw [List.append_assoc]
      have : pairsAt p j i (d + 1) = [[(j : Int), (i : Int)]] ++ pairsAt p j (i + 1) d := by simp [pairsAt, List.range'_succ, e]
      rw [this] at c; exact c
    · refine implCovers_l1 g j hj r d (i + 1) _ (by omega) (by omega) ?_
      have : pairsAt p j i (d + 1) = pairsAt p j (i + 1) d := by simp [pairsAt, List.range'_succ, e]
      rw [this] at c; exact c
theorem pairsAt_len (p : List Nat) (j i d : Nat) : (pairsAt p j i d).length ≤ d := by
  unfold pairsAt
  rw [List.length_map]
  exact Nat.le_trans (List.length_filter_le _ _) (by simp)
theorem implCovers_l0 {p : List Nat} (g : Good p) : ∀ (d j : Nat) (acc : List (List Int)), j + d = p.length → acc.length + 10 * d ≤ 100 →
    Ev (fun k => impl_Poset_covers.l0 k acc (p.length : Int) (j : Int) (toI p)) (acc ++ pairsTo p j d)
  | 0, j, acc, h, ha => by
    refine Ev.step (fun _ => impl_Poset_covers.l0.eq_2 ..) (ev_neg (by omega) ?_)
    simpa [pairsTo] using Ev.now acc
  | d + 1, j, acc, h, ha => by
    have gl := g.le
    have := pairsAt_len p j 0 p.length
    refine Ev.step (fun _ => impl_Poset_covers.l0.eq_2 ..) (ev_pos (by omega) (ev_call (n_eq _) ?_))
    rw [toI_len]
    refine implCovers_l1 g j (by omega) _ p.length 0 acc (by omega) (by omega) ?_
    have ih := implCovers_l0 g d (j + 1) (acc ++ pairsAt p j 0 p.length) (by omega) (by simp; omega)
    rw [List.append_assoc] at ih
    have e : pairsTo p j (d + 1) = pairsAt p j 0 p.length ++ pairsTo p (j + 1) d := by simp [pairsTo, List.range'_succ]
    rw [e]; exact ih
theorem pairsTo_eq (p : List Nat) : pairsTo p 0 p.length = pairs p := by unfold pairsTo pairs pairsAt; rw [← List.range_eq_range']
theorem implCovers_ev {p : List Nat} (g : Good p) : Ev (fun k => impl_Poset_covers.f k (toI p)) (pairs p) := by
  have gl := g.le
  refine ev_call (n_eq _) ?_
  rw [toI_len]
  have := implCovers_l0 g p.length 0 [] (by omega) (by simp; omega)
  rw [List.nil_append, pairsTo_eq] at this; exact this
theorem specCov_l0 {p : List Nat} (g : Good p) (j i : Nat) (hj : j < p.length) (hi : i < p.length) : ∀ (d k : Nat), k + d = i → Ev (fun n => spec_poCovers.l0 n (j : Int) (i : Int) (k : Int) (toI p)) ((List.range' k d).all fun k => !((less p i).testBit k && (less p k).testBit j))
  | 0, k, h => by
    refine Ev.step (fun _ => spec_poCovers.l0.eq_2 ..) (ev_neg (by omega) ?_)
    simpa using Ev.now true
  | d + 1, k, h => by
    have gl := g.le
    have ih := specCov_l0 g j i hj hi d (k + 1) (by omega)
    refine Ev.step (fun _ => spec_poCovers.l0.eq_2 ..) (ev_pos (by omega) (ev_pos (by omega) (ev_pos (by rw [toI_len]; omega) ?_)))
    rw [rd_less, wrap_succ (by omega), List.range'_succ, List.all_cons]
    refine ev_call (poIn_eq (by omega)) (ev_ite (fun e => ?_) (fun e => ?_))
    · rw [e, Bool.true_and]
      refine ev_pos (by omega) (ev_pos (by rw [toI_len]; omega) ?_)
      rw [rd_less]
      refine ev_call (poIn_eq (by omega)) (ev_ite (fun e2 => ?_) (fun e2 => ?_))
      · rw [e2]; exact Ev.now _
      · rw [Bool.eq_false_iff.mpr e2, Bool.not_false, Bool.true_and]; exact ih
    · rw [Bool.eq_false_iff.mpr e, Bool.false_and, Bool.not_false, Bool.true_and]; exact ih
theorem specCov_ev {p : List Nat} (g : Good p) {j i : Nat} (hj : j < p.length) (hi : i < p.length) : Ev (fun k => spec_poCovers.f k (toI p) (j : Int) (i : Int)) (covB p j i) := by
  have gl := g.le
  refine ev_pos (by omega) (ev_pos (by rw [toI_len]; omega) ?_)
  rw [rd_less]
  unfold covB
  refine ev_call (poIn_eq (by omega)) (ev_ite (fun e => ?_) (fun e => ?_))
  · rw [e, Bool.true_and, wrap_succ (by omega)]
    have b := g.bit e
    by_cases hji : j + 1 ≤ i
    · exact specCov_l0 g j i hj hi _ (j + 1) (by omega)
    · omega
  · rw [Bool.eq_false_iff.mpr e, Bool.false_and]; exact Ev.now _
theorem specPairs_l1 {p : List Nat} (g : Good p) (j : Nat) (hj : j < p.length) (r : List (List Int)) : ∀ (d i : Nat) (acc : List (List Int)), i + d = p.length → acc.length + d ≤ 1000 →
    Ev (fun k => spec_poPairs.l0 k (acc ++ pairsAt p j i d) (p.length : Int) ((j + 1 : Nat) : Int) (toI p)) r →
    Ev (fun k => spec_poPairs.l1 k acc (j : Int) (p.length : Int) (j : Int) (p.length : Int) (i : Int) (toI p)) r
  | 0, i, acc, h, ha, c => by
    have gl := g.le
    refine Ev.step (fun _ => spec_poPairs.l1.eq_2 ..) (ev_neg (by omega) ?_)
    rw [wrap_succ (by omega)]
    simpa [pairsAt] using c
  | d + 1, i, acc, h, ha, c => by
    have gl := g.le
    refine Ev.step (fun _ => spec_poPairs.l1.eq_2 ..) (ev_pos (by omega) (Ev.bind (specCov_ev g hj (by omega)) ?_))
    rw [wrap_succ (by omega)]
    refine ev_ite (fun e => ?_) (fun e => ?_)
    · refine ev_pos (by omega) (specPairs_l1 g j hj r d (i + 1) _ (by omega) (by simp; omega) ?_)
      rw [List.append_assoc]
      have : pairsAt p j i (d + 1) = [[(j : Int), (i : Int)]] ++ pairsAt p j (i + 1) d := by simp [pairsAt, List.range'_succ, e]
      rw [this] at c; exact c
    · refine specPairs_l1 g j hj r d (i + 1) _ (by omega) (by omega) ?_
      have : pairsAt p j i (d + 1) = pairsAt p j (i + 1) d := by simp [pairsAt, List.range'_succ, e]
      rw [this] at c; exact c
theorem specPairs_l0 {p : List Nat} (g : Good p) : ∀ (d j : Nat) (acc : List (List Int)), j + d = p.length → acc.length + 10 * d ≤ 100 →
    Ev (fun k => spec_poPairs.l0 k acc (p.length : Int) (j : Int) (toI p)) (acc ++ pairsTo p j d)
  | 0, j, acc, h, ha => by
    refine Ev.step (fun _ => spec_poPairs.l0.eq_2 ..) (ev_neg (by omega) ?_)
    simpa [pairsTo] using Ev.now acc
  | d + 1, j, acc, h, ha => by
    have gl := g.le
    have := pairsAt_len p j 0 p.length
    refine Ev.step (fun _ => spec_poPairs.l0.eq_2 ..) (ev_pos (by omega) ?_)
    rw [toI_len]
    refine specPairs_l1 g j (by omega) _ p.length 0 acc (by omega) (by omega) ?_
    have ih := specPairs_l0 g d (j + 1) (acc ++ pairsAt p j 0 p.length) (by omega) (by simp; omega)
    rw [List.append_assoc] at ih
    have e : pairsTo p j (d + 1) = pairsAt p j 0 p.length ++ pairsTo p (j + 1) d := by simp [pairsTo, List.range'_succ]
    rw [e]; exact ih
theorem specPairs_ev {p : List Nat} (g : Good p) : Ev (fun k => spec_poPairs.f k (toI p)) (pairs p) := by
  have gl := g.le
  unfold spec_poPairs.f
  rw [toI_len]
  have := specPairs_l0 g p.length 0 [] (by omega) (by simp; omega)
  rw [List.nil_append, pairsTo_eq] at this; exact this
theorem mem_pairs {p : List Nat} {c : List Int} (h : c ∈ pairs p) : ∃ j i : Nat, c = [((j : Nat) : Int), ((i : Nat) : Int)] ∧ j < p.length ∧ i < p.length ∧ covB p j i = true := by
  unfold pairs at h
  simp only [List.mem_flatMap, List.mem_range, List.mem_map, List.mem_filter] at h
  obtain ⟨j, hj, i, ⟨hi, hc⟩, rfl⟩ := h
  exact ⟨j, i, rfl, hj, hi, hc⟩
theorem pairs_len {p : List Nat} (g : Good p) : (pairs p).length ≤ 100 := by
  have gl := g.le
  have : ∀ (d j : Nat), (pairsTo p j d).length ≤ 10 * d := by
    intro d
    induction d with
    | zero => intro j; simp [pairsTo]
    | succ d ih =>
      intro j
      have e : pairsTo p j (d + 1) = pairsAt p j 0 p.length ++ pairsTo p (j + 1) d := by simp [pairsTo, List.range'_succ]
      rw [e, List.length_append]
      have := pairsAt_len p j 0 p.length
      have := ih (j + 1)
      omega
  rw [← pairsTo_eq]
  have := this p.length 0
  omega
def rankedB (p : List Nat) : Bool := (pairs p).all fun c => rd (toI (ht p)) (rd c 1) == rd (toI (ht p)) (rd c 0) + 1
theorem poRanked_l0 {p : List Nat} (g : Good p) : ∀ (d q : Nat), q + d = (pairs p).length → Ev (fun k => spec_poRanked.l0 k (toI (ht p)) (pairs p) ((pairs p).length : Int) (q : Int)) (((pairs p).drop q).all fun c => rd (toI (ht p)) (rd c 1) == rd (toI (ht p)) (rd c 0) + 1)
  | 0, q, h => by
    refine Ev.step (fun _ => spec_poRanked.l0.eq_2 ..) (ev_neg (by omega) ?_)
    rw [List.drop_of_length_le (by omega)]; exact Ev.now _
  | d + 1, q, h => by
    have gl := g.le
    have hp := pairs_len g
    have hq : q < (pairs p).length := by omega
    have er : rd_L1 (pairs p) (q : Int) = (pairs p)[q] := by simp [rd_L1, List.getD_eq_getElem?_getD, hq]
    obtain ⟨j, i, e, hj, hi, hc⟩ := mem_pairs (List.getElem_mem hq)
    have e0 : rd (pairs p)[q] 0 = (j : Int) := by rw [e]; rfl
    have e1 : rd (pairs p)[q] 1 = (i : Int) := by rw [e]; rfl
    have el : (pairs p)[q].length = 2 := by rw [e]; rfl
    have b0 := hh_le p j
    refine Ev.step (fun _ => spec_poRanked.l0.eq_2 ..) (ev_pos (by omega) (ev_pos (by omega) (ev_pos (by omega) ?_)))
    have ih := poRanked_l0 g d (q + 1) (by omega)
    have hj' : rd (toI (ht p)) (j : Int) = ((hh p j : Nat) : Int) := rd_toI _ _
    rw [er, e0, e1, el, List.drop_eq_getElem_cons hq, List.all_cons, e0, e1, wrap_succ (by omega), toI_len, ht_len, hj', wrap_succ (by omega)]
    refine ev_pos (by omega) (ev_pos (by omega) (ev_pos (by omega) (ev_pos (by omega) (ev_pos (by omega) (ev_pos (by omega) (ev_ite (fun e => ?_) (fun e => ?_)))))))
    · have e' : (rd (toI (ht p)) (i : Int) == ((hh p j : Nat) : Int) + 1) = true := by rw [beq_iff_eq, e]; rfl
      rw [e', Bool.true_and]; exact ih
    · have e' : (rd (toI (ht p)) (i : Int) == ((hh p j : Nat) : Int) + 1) = false := by rw [beq_eq_false_iff_ne]; exact e
      rw [e', Bool.false_and]; exact Ev.now _
theorem poRanked_ev {p : List Nat} (g : Good p) : Ev (fun k => spec_poRanked.f k (toI p)) (rankedB p) :=
  Ev.bind (specHeights_ev g) (Ev.bind (specPairs_ev g) (poRanked_l0 g _ 0 (Nat.zero_add _)))
def rgB (l : List Int) : Bool := goodB l && rankedB (l.map Int.toNat)
theorem rvGood_ev (l : List Int) : Ev (fun k => spec_rvGood.f k l) (rgB l) := by
  refine Ev.bind (poGood_ev l) ?_
  unfold rgB
  refine ev_ite (fun e => ?_) (fun e => ?_)
  · obtain ⟨p, rfl, g⟩ := goodB_of e
    rw [e, Bool.true_and, toNat_toI]
    exact Ev.bind (poRanked_ev g) (Ev.now _)
  · rw [Bool.eq_false_iff.mpr e, Bool.false_and]; exact Ev.now _
theorem isRanked_ok {p : List Nat} (g : Good p) : impl_IsRanked.ok (toI (ht p)) (pairs p) = true := by
  unfold impl_IsRanked.ok
  have := pairs_len g
  rw [Bool.and_eq_true, decide_eq_true_eq, List.all_eq_true]
  refine ⟨by omega, fun c hc => ?_⟩
  obtain ⟨j, i, rfl, hj, hi, _⟩ := mem_pairs hc
  have e0 : rd [((j : Nat) : Int), ((i : Nat) : Int)] 0 = (j : Int) := rfl
  have e1 : rd [((j : Nat) : Int), ((i : Nat) : Int)] 1 = (i : Int) := rfl
  rw [e0, e1, toI_len, ht_len]
  simp only [Bool.and_eq_true, decide_eq_true_eq]
  exact ⟨⟨⟨⟨rfl, by omega⟩, by omega⟩, by omega⟩, by omega⟩
theorem isRanked_any {p : List Nat} (g : Good p) : (!((pairs p).any (impl_IsRanked.p (toI (ht p))))) = rankedB p := by
  unfold rankedB
  rw [Bool.eq_iff_iff, Bool.not_eq_true', List.any_eq_false, List.all_eq_true]
  refine forall_congr' fun c => forall_congr' fun hc => ?_
  obtain ⟨j, i, rfl, hj, hi, _⟩ := mem_pairs hc
  have e0 : rd [((j : Nat) : Int), ((i : Nat) : Int)] 0 = (j : Int) := rfl
  have hj' : rd (toI (ht p)) (j : Int) = ((hh p j : Nat) : Int) := rd_toI _ _
  have b0 := hh_le p j
  have gl := g.le
  unfold impl_IsRanked.p
  rw [e0, hj', wrap_succ (by omega), Int.natCast_succ, bne_iff_ne, ne_eq, Classical.not_not, beq_iff_eq]
theorem IsRanked_ev (l : List Int) : Ev (fun k => impl_IsRanked.f k l) (rgB l, goodB l) := by
  refine Ev.bind (isPoset_ev l) ?_
  unfold rgB
  refine ev_ite (fun e => ?_) (fun e => ?_)
  · obtain ⟨p, rfl, g⟩ := goodB_of e
    rw [e, Bool.true_and, toNat_toI]
    refine Ev.bind (implHeights_ev g) (Ev.bind (implCovers_ev g) (ev_pos (isRanked_ok g) ?_))
    rw [isRanked_any g]; exact Ev.now _
  · rw [Bool.eq_false_iff.mpr e, Bool.false_and]; exact Ev.now _
theorem isRanked_ev (l : List Int) : Ev (fun k => impl_isRanked.f k l) (rgB l) := Ev.bind (IsRanked_ev l) (Ev.now _)
theorem rgB_of {l : List Int} (h : rgB l = true) : ∃ p, l = toI p ∧ Good p ∧ rankedB p = true := by
  unfold rgB at h
  rw [Bool.and_eq_true] at h
  obtain ⟨p, rfl, g⟩ := goodB_of h.1
  exact ⟨p, rfl, g, by rw [toNat_toI] at h; exact h.2⟩
end Go.Proofs.Ytpcehliabaakeaa.M
end
section
namespace Go.Proofs.Ytpcehliabaakeaa.M
open Go.RowKit Go.Proofs.YtpcehliabaakeaaW.PrintWords Go.Proofs.YtpcehliabaakeaaW.PrintLast Go.Proofs.YtpcehliabaakeaaW.PrintMore Go.Proofs.Ytpcehliabaakeaa.L
set_option linter.unusedVariables false
def tg (p : List Nat) (s e : Nat) : Nat := if idealB p (s ^^^ 2 ^ e) = true then s ^^^ 2 ^ e else s
theorem pow_lt' {p : List Nat} {e : Nat} (h : e < p.length) : 2 ^ e < 2 ^ p.length := Nat.pow_lt_pow_right (by decide) h
theorem tg_id {p : List Nat} {s e : Nat} (hs : IsId p s) (h : e < p.length) : IsId p (tg p s e) := by
  unfold tg; split
  · rename_i h2; exact (idealB_iff (Nat.xor_lt_two_pow hs.1 (pow_lt' h))).mp h2
  · exact hs
theorem xor_bit (s e i : Nat) : (s ^^^ 2 ^ e).testBit i = (s.testBit i ^^ decide (e = i)) := by rw [Nat.testBit_xor, Nat.testBit_two_pow]
theorem xor_ne {s e i : Nat} (h : e ≠ i) : (s ^^^ 2 ^ e).testBit i = s.testBit i := by rw [xor_bit]; simp [h]
theorem xor_eq (s e : Nat) : (s ^^^ 2 ^ e).testBit e = !s.testBit e := by rw [xor_bit]; simp
def Can (p : List Nat) (s e : Nat) : Prop := (s.testBit e = true → ∀ f, s.testBit f = true → (less p f).testBit e = false) ∧ (s.testBit e = false → ∀ f, (less p e).testBit f = true → s.testBit f = true)
theorem can_iff {p : List Nat} (g : Good p) {s e : Nat} (hs : IsId p s) (he : e < p.length) : idealB p (s ^^^ 2 ^ e) = true ↔ Can p s e := by
  rw [idealB_iff (Nat.xor_lt_two_pow hs.1 (pow_lt' he))]
  constructor
  · rintro ⟨_, h⟩
    refine ⟨fun h1 f hf => ?_, fun h1 f hf => ?_⟩
    · apply Bool.eq_false_iff.mpr
      intro hc
      have b := g.bit hc
      have := h f (by rw [xor_ne (by omega)]; exact hf) e hc
      rw [xor_eq, h1] at this; cases this
    · have b := g.bit hf
      have := h e (by rw [xor_eq, h1]; rfl) f hf
      rwa [xor_ne (by omega)] at this
  · rintro ⟨h1, h2⟩
    refine ⟨Nat.xor_lt_two_pow hs.1 (pow_lt' he), fun f hf i hi => ?_⟩
    have b := g.bit hi
    by_cases c : e = f
    · subst c
      rw [xor_eq, Bool.not_eq_true'] at hf
      rw [xor_ne (by omega)]
      exact h2 hf i hi
    · rw [xor_ne c] at hf
      have hsi := hs.2 f hf i hi
      by_cases c2 : e = i
      · subst c2
        rw [h1 hsi f hf] at hi; cases hi
      · rw [xor_ne c2]; exact hsi
theorem tg_ne {p : List Nat} {s e i : Nat} (h : e ≠ i) : (tg p s e).testBit i = s.testBit i := by
  unfold tg; split
  · exact xor_ne h
  · rfl
theorem tg_eq {p : List Nat} (g : Good p) {s e : Nat} (hs : IsId p s) (he : e < p.length) : (tg p s e).testBit e = true ↔ (s.testBit e = true ∧ ∃ f, s.testBit f = true ∧ (less p f).testBit e = true) ∨ (s.testBit e = false ∧ ∀ f, (less p e).testBit f = true → s.testBit f = true) := by
  have hc := can_iff g hs he
  unfold tg
  cases hb : s.testBit e
  · by_cases c : idealB p (s ^^^ 2 ^ e) = true
    · rw [if_pos c, xor_eq, hb]
      exact ⟨fun _ => .inr ⟨rfl, (hc.mp c).2 hb⟩, fun _ => rfl⟩
    · rw [if_neg c, hb]
      refine ⟨fun h => (by cases h), fun h => ?_⟩
      rcases h with h | h
      · cases h.1
      · exact absurd (hc.mpr ⟨fun h1 => (by rw [hb] at h1; cases h1), fun _ => h.2⟩) c
  · by_cases c : idealB p (s ^^^ 2 ^ e) = true
    · rw [if_pos c, xor_eq, hb]
      refine ⟨fun h => (by cases h), fun h => ?_⟩
      rcases h with ⟨_, f, hf, hl⟩ | h
      · rw [(hc.mp c).1 hb f hf] at hl; cases hl
      · cases h.1
    · rw [if_neg c, hb]
      refine ⟨fun _ => .inl ⟨rfl, ?_⟩, fun _ => rfl⟩
      apply Classical.byContradiction
      intro hn
      refine c (hc.mpr ⟨fun _ f hf => ?_, fun h => by rw [hb] at h; cases h⟩)
      apply Bool.eq_false_iff.mpr
      intro hl
      exact hn ⟨f, hf, hl⟩
def bot (p : List Nat) (u : Nat) : Nat := foldBits p.length u (fun o e => if less p e &&& u = 0 then o ||| 2 ^ e else o) 0
theorem and_zero {a b : Nat} : a &&& b = 0 ↔ ∀ i, a.testBit i = true → b.testBit i = false := by
  constructor
  · intro h i hi
    have : (a &&& b).testBit i = false := by rw [h, Nat.zero_testBit]
    rw [Nat.testBit_and, hi, Bool.true_and] at this; exact this
  · intro h
    apply Nat.eq_of_testBit_eq
    intro i
    rw [Nat.testBit_and, Nat.zero_testBit]
    cases ha : a.testBit i
    · rfl
    · rw [h i ha]; rfl
theorem foldPut_bit (c : Nat → Prop) [DecidablePred c] (u a i : Nat) : ∀ n, (foldBits n u (fun o e => if c e then o ||| 2 ^ e else o) a).testBit i = true ↔ (a.testBit i = true ∨ (i < n ∧ u.testBit i = true ∧ c i))
  | 0 => by simp [foldBits]
  | n + 1 => by
    rw [foldBits_succ]
    have ih := foldPut_bit c u a i n
    by_cases hu : u.testBit n = true
    · rw [if_pos hu]
      by_cases hc : c n
      · rw [if_pos hc, Nat.testBit_or, Bool.or_eq_true, ih, Nat.testBit_two_pow, decide_eq_true_eq]
        constructor
        · rintro ((h | ⟨h1, h2⟩) | h)
          · exact .inl h
          · exact .inr ⟨by omega, h2⟩
          · subst h; exact .inr ⟨by omega, hu, hc⟩
        · rintro (h | ⟨h1, h2⟩)
          · exact .inl (.inl h)
          · by_cases e : n = i
            · exact .inr e
            · exact .inl (.inr ⟨by omega, h2⟩)
      · rw [if_neg hc, ih]
        refine or_congr_right ⟨fun h => ⟨by omega, h.2⟩, fun h => ⟨?_, h.2⟩⟩
        have : i ≠ n := fun e => by subst e; exact hc h.2.2
        omega
    · rw [if_neg hu, ih]
      refine or_congr_right ⟨fun h => ⟨by omega, h.2⟩, fun h => ⟨?_, h.2⟩⟩
      have : i ≠ n := fun e => by subst e; exact hu h.2.1
      omega
theorem bot_bit {p : List Nat} {u : Nat} (hu : u < 2 ^ p.length) (i : Nat) : (bot p u).testBit i = true ↔ u.testBit i = true ∧ ∀ j, (less p i).testBit j = true → u.testBit j = false := by
  unfold bot
  rw [foldPut_bit (fun e => less p e &&& u = 0), Nat.zero_testBit]
  constructor
  · rintro (h | ⟨h1, h2, h3⟩)
    · cases h
    · exact ⟨h2, and_zero.mp h3⟩
  · rintro ⟨h1, h2⟩
    exact .inr ⟨bit_lt hu h1, h1, and_zero.mpr h2⟩
theorem put_lt {n : Nat} (c : Nat → Prop) [DecidablePred c] (u : Nat) : foldBits n u (fun o e => if c e then o ||| 2 ^ e else o) 0 < 2 ^ n :=
  foldBits_inv _ _ _ _ (· < 2 ^ n) (Nat.two_pow_pos _) (fun a e ha he _ => by
    split
    · exact Nat.or_lt_two_pow ha (Nat.pow_lt_pow_right (by decide) he)
    · exact ha)
theorem bot_lt {p : List Nat} (u : Nat) : bot p u < 2 ^ p.length := put_lt _ u
def row (p : List Nat) (s : Nat) : Nat := close p (bot p (sd (full p) s))
theorem co_lt {p : List Nat} (s : Nat) : sd (full p) s < 2 ^ p.length := sd_lt s (full_lt p)
theorem co_bit {p : List Nat} {s i : Nat} : (sd (full p) s).testBit i = true ↔ i < p.length ∧ s.testBit i = false := by
  rw [sd_bit, full_bit, Bool.and_eq_true, decide_eq_true_eq, Bool.not_eq_true']
theorem row_lt {p : List Nat} (g : Good p) (s : Nat) : row p s < 2 ^ p.length := close_lt g (bot_lt _)
theorem row_bit {p : List Nat} (g : Good p) {s : Nat} (hs : IsId p s) (i : Nat) : (row p s).testBit i = true ↔ ∃ e, e < p.length ∧ s.testBit e = false ∧ (∀ j, (less p e).testBit j = true → s.testBit j = true) ∧ (e = i ∨ (less p e).testBit i = true) := by
  unfold row
  rw [close_bit (bot_lt _)]
  have hb : ∀ e, (bot p (sd (full p) s)).testBit e = true ↔ e < p.length ∧ s.testBit e = false ∧ (∀ j, (less p e).testBit j = true → s.testBit j = true) := by
    intro e
    rw [bot_bit (co_lt s), co_bit, and_assoc]
    refine and_congr_right fun h1 => and_congr_right fun h2 => forall_congr' fun j => forall_congr' fun hj => ?_
    have b := g.bit hj
    rw [← Bool.not_eq_true, co_bit, not_and, Bool.not_eq_false]
    exact ⟨fun h => h (by omega), fun h _ => h⟩
  constructor
  · rintro (h | ⟨e, h, hl⟩)
    · have := (hb i).mp h
      exact ⟨i, this.1, this.2.1, this.2.2, .inl rfl⟩
    · have := (hb e).mp h
      exact ⟨e, this.1, this.2.1, this.2.2, .inr hl⟩
  · rintro ⟨e, h1, h2, h3, h4⟩
    rcases h4 with h4 | h4
    · subst h4; exact .inl ((hb e).mpr ⟨h1, h2, h3⟩)
    · exact .inr ⟨e, (hb e).mpr ⟨h1, h2, h3⟩, h4⟩
theorem row_id {p : List Nat} (g : Good p) {s : Nat} (hs : IsId p s) : IsId p (row p s) := by
  refine ⟨row_lt g s, fun e he i hi => ?_⟩
  rw [row_bit g hs] at he ⊢
  obtain ⟨f, h1, h2, h3, h4⟩ := he
  refine ⟨f, h1, h2, h3, .inr ?_⟩
  rcases h4 with h4 | h4
  · rw [h4]; exact hi
  · exact g.tr' h4 hi
structure Mid (p : List Nat) (s t : Nat) (P : Nat → Prop) (x : Nat) : Prop where
  id : IsId p x
  on : ∀ i, i < p.length → P i → x.testBit i = t.testBit i
  off : ∀ i, i < p.length → ¬ P i → x.testBit i = s.testBit i
theorem Mid.step {p : List Nat} {s t x i : Nat} {P Q : Nat → Prop} (I : Mid p s t P x) (hi : i < p.length) (hQ : ∀ k, k < p.length → (Q k ↔ P k ∨ k = i)) (h : (tg p x i).testBit i = t.testBit i) : Mid p s t Q (tg p x i) := by
  refine ⟨tg_id I.id hi, fun k hk hq => ?_, fun k hk hq => ?_⟩
  · by_cases c : i = k
    · subst c; exact h
    · rw [tg_ne c]
      rcases (hQ k hk).mp hq with h | h
      · exact I.on k hk h
      · exact absurd h.symm c
  · rw [tg_ne (fun c => hq ((hQ k hk).mpr (.inr c.symm)))]
    exact I.off k hk fun h => hq ((hQ k hk).mpr (.inl h))
theorem Mid.all {p : List Nat} {s t x : Nat} {P : Nat → Prop} (I : Mid p s t P x) (ht : t < 2 ^ p.length) (h : ∀ i, i < p.length → P i) : x = t := by
  apply Nat.eq_of_testBit_eq
  intro i
  by_cases hi : i < p.length
  · exact I.on i hi (h i hi)
  · have big : ∀ y, y < 2 ^ p.length → y.testBit i = false := fun y hy => Nat.testBit_lt_two_pow (Nat.lt_of_lt_of_le hy (Nat.pow_le_pow_right (by decide) (by omega)))
    rw [big x I.id.1, big t ht]
theorem Mid.none {p : List Nat} {s : Nat} (t : Nat) (hs : IsId p s) {P : Nat → Prop} (h : ∀ i, i < p.length → ¬ P i) : Mid p s t P s :=
  ⟨hs, fun i hi hp => absurd hp (h i hi), fun _ _ _ => rfl⟩
theorem Mid.row {p : List Nat} (g : Good p) {s x i : Nat} {P Q : Nat → Prop} (hs : IsId p s) (I : Mid p s (row p s) P x) (hi : i < p.length) (hP : ¬ P i) (up : ∀ k, (less p k).testBit i = true → P k)
    (dn : ∀ j, (less p i).testBit j = true → ¬ P j) (hQ : ∀ k, k < p.length → (Q k ↔ P k ∨ k = i)) : Mid p s (M.row p s) Q (tg p x i) := by
  refine I.step hi hQ ?_
  have xi := I.off i hi hP
  rw [Bool.eq_iff_iff, tg_eq g I.id hi, xi]
  cases hb : s.testBit i
  · constructor
    · rintro (h | ⟨_, h⟩)
      · cases h.1
      · rw [row_bit g hs]
        refine ⟨i, hi, hb, fun j hj => ?_, .inl rfl⟩
        have b := g.bit hj
        rw [← I.off j (by omega) (dn j hj)]; exact h j hj
    · intro h
      rw [row_bit g hs] at h
      obtain ⟨e, h1, h2, h3, h4⟩ := h
      refine .inr ⟨rfl, fun f hf => ?_⟩
      have b := g.bit hf
      rw [I.off f (by omega) (dn f hf)]
      rcases h4 with h4 | h4
      · rw [h4] at h3; exact h3 f hf
      · have := h3 i h4
        rw [hb] at this; cases this
  · constructor
    · rintro (⟨_, f, hf, hl⟩ | h)
      · have b := g.bit hl
        have := I.on f b.2 (up f hl)
        rw [hf] at this
        exact (row_id g hs).2 f this.symm i hl
      · cases h.1
    · intro h
      rw [row_bit g hs] at h
      obtain ⟨e, h1, h2, h3, h4⟩ := h
      rcases h4 with h4 | h4
      · subst h4; rw [hb] at h2; cases h2
      · refine .inl ⟨rfl, e, ?_, h4⟩
        rw [I.on e h1 (up e h4), row_bit g hs]
        exact ⟨e, h1, h2, h3, .inl rfl⟩
end Go.Proofs.Ytpcehliabaakeaa.M
end
section
namespace Go.Proofs.Ytpcehliabaakeaa.M
open Go.RowKit Go.Proofs.YtpcehliabaakeaaW.PrintWords Go.Proofs.YtpcehliabaakeaaW.PrintLast Go.Proofs.YtpcehliabaakeaaW.PrintMore Go.Proofs.Ytpcehliabaakeaa.L
set_option linter.unusedVariables false
def mask (p : List Nat) (r : Nat) : Nat → Nat
  | 0 => 0
  | i + 1 => if hh p i = r then mask p r i ||| 2 ^ i else mask p r i
theorem mask_lt (p : List Nat) (r : Nat) : ∀ i, mask p r i < 2 ^ i
  | 0 => by simp [mask]
  | i + 1 => by
    have := mask_lt p r i
    have h2 : 2 ^ i < 2 ^ (i + 1) := Nat.pow_lt_pow_right (by decide) (by omega)
    unfold mask
    split
    · exact Nat.or_lt_two_pow (by omega) h2
    · omega
def mxs (p : List Nat) : Nat → Nat
  | 0 => 0
  | i + 1 => max (mxs p i) (hh p i + 1)
def hgh (p : List Nat) : Nat := mxs p p.length
theorem mxs_le (p : List Nat) : ∀ i, mxs p i ≤ i
  | 0 => Nat.le_refl _
  | i + 1 => by have := mxs_le p i; have := hh_le p i; unfold mxs; omega
theorem mxs_ge (p : List Nat) {e : Nat} : ∀ i, e < i → hh p e + 1 ≤ mxs p i
  | 0, h => by omega
  | i + 1, h => by
    unfold mxs
    by_cases c : e = i
    · subst c; omega
    · have := mxs_ge p i (e := e) (by omega); omega
theorem mask_zero (p : List Nat) {r : Nat} : ∀ i, mxs p i ≤ r → mask p r i = 0
  | 0, _ => rfl
  | i + 1, h => by
    unfold mxs at h
    unfold mask
    rw [if_neg (by omega)]
    exact mask_zero p i (by omega)
def rks (p : List Nat) (M i : Nat) : List Nat := (List.range M).map fun r => mask p r i
theorem rks_len (p : List Nat) (M i : Nat) : (rks p M i).length = M := by simp [rks]
theorem rks_get (p : List Nat) {M i r : Nat} (h : r < M) : (rks p M i).getD r 0 = mask p r i := by simp [rks, List.getD_eq_getElem?_getD, h]
theorem rks_set (p : List Nat) {M i : Nat} : (rks p M i).set (hh p i) (mask p (hh p i) i ||| 2 ^ i) = rks p M (i + 1) := by
  apply List.ext_getElem (by simp [rks])
  intro r h1 h2
  rw [List.getElem_set]
  simp only [rks, List.getElem_map, List.getElem_range]
  by_cases c : hh p i = r
  · rw [if_pos c, mask, if_pos c, c]
  · rw [if_neg c, mask, if_neg c]
theorem rks_grow (p : List Nat) {M i : Nat} (h : mxs p i ≤ M) : toI (rks p M i) ++ [0] = toI (rks p (M + 1) i) := by
  unfold rks
  rw [List.range_succ, List.map_append, List.map_singleton, mask_zero p i h, toI_app]; rfl
theorem ht_eq (p : List Nat) : ht p = (List.range p.length).map (hh p) := by
  apply List.ext_getElem (by simp [ht_len])
  intro i h1 h2
  rw [List.getElem_map, List.getElem_range]
  simp [hh, List.getD_eq_getElem?_getD, h1]
theorem fold_mxs (p : List Nat) : ∀ i, (List.range i).foldl (fun a e => max a (hh p e + 1)) 0 = mxs p i
  | 0 => rfl
  | i + 1 => by rw [List.range_succ, List.foldl_append, fold_mxs p i]; rfl
theorem fold_mx (l : List Nat) : ∀ a : Nat, (toI l).foldl (fun m x => mx m x) (a : Int) = ((l.foldl max a : Nat) : Int) := by
  induction l with
  | nil => intro a; rfl
  | cons x l ih => intro a; rw [List.foldl_cons, ← ih (max a x), ← mx_nat]; rfl
theorem fold_max1 (l : List Nat) : ∀ a : Nat, l.foldl max a + 1 = l.foldl (fun a x => max a (x + 1)) (a + 1) := by
  induction l with
  | nil => intro a; rfl
  | cons x l ih => intro a; rw [List.foldl_cons, List.foldl_cons, ih, show max (a + 1) (x + 1) = max a x + 1 by omega]
theorem max_ev {p : List Nat} (g : Good p) : slices_Max_int_int.f (toI (ht p)) = some (((hgh p : Nat) : Int) - 1) := by
  have gl := g.le
  have gp := g.pos
  have e1 : hgh p = (ht p).foldl (fun a x => max a (x + 1)) 0 := by rw [ht_eq, List.foldl_map, fold_mxs]; rfl
  unfold slices_Max_int_int.f
  rw [if_pos (by rw [toI_len, ht_len]; omega)]
  refine congrArg some ?_
  unfold slices_Max_int_int.g
  rw [e1]
  cases hl : ht p with
  | nil => have := ht_len p; rw [hl] at this; simp at this; omega
  | cons x t =>
    have e2 : rd (toI (x :: t)) 0 = (x : Int) := rfl
    have e3 : (toI (x :: t)).drop 1 = toI t := rfl
    rw [e2, e3, fold_mx, List.foldl_cons, show max 0 (x + 1) = x + 1 by omega, ← fold_max1]
    omega
theorem implRanks_l0 {p : List Nat} (g : Good p) : ∀ (d i : Nat), i + d = p.length → Ev (fun k => impl_Poset_ranks.l0 k (toI (rks p (hgh p) i)) (toI (ht p)) ((toI (ht p)).length : Int) (i : Int)) (toI (rks p (hgh p) p.length))
  | 0, i, h => by
    refine Ev.step (fun _ => impl_Poset_ranks.l0.eq_2 ..) (ev_neg (by rw [toI_len, ht_len]; omega) ?_)
    obtain rfl : i = p.length := by omega
    exact Ev.now _
  | d + 1, i, h => by
    have gl := g.le
    have hm := mxs_ge p (e := i) p.length (by omega)
    have hm' : hh p i < hgh p := hm
    have ei : rd (toI (ht p)) (i : Int) = ((hh p i : Nat) : Int) := rd_toI _ _
    refine Ev.step (fun _ => impl_Poset_ranks.l0.eq_2 ..) (ev_pos (by rw [toI_len, ht_len]; omega) (ev_pos (by omega) (ev_pos (by rw [toI_len, ht_len]; omega) ?_)))
    rw [ei]
    refine ev_pos (by omega) (ev_pos (by rw [toI_len, rks_len]; omega) ?_)
    have h2 : 2 ^ i < 2 ^ 63 := Nat.pow_lt_pow_right (by decide) (by omega)
    have hml := Go.Proofs.Ytpcehliabaakeaa.M.lt63 (mask_lt p (hh p i) i) (by omega)
    rw [rd_toI, rks_get p hm', shl_one (by omega), bits_or hml h2, Int.toNat_natCast, toI_set, rks_set, wrap_succ (by omega)]
    exact implRanks_l0 g d (i + 1) (by omega)
def ranks (p : List Nat) : List Nat := rks p (hgh p) p.length
theorem hgh_le {p : List Nat} (g : Good p) : 1 ≤ hgh p ∧ hgh p ≤ 10 := by
  have := mxs_le p p.length
  have := g.le
  have := g.pos
  have := mxs_ge p (e := 0) p.length (by omega)
  unfold hgh; omega
theorem implRanks_ev {p : List Nat} (g : Good p) : Ev (fun k => impl_Poset_ranks.f k (toI p)) (toI (ranks p)) := by
  have gh := hgh_le g
  refine Ev.bind (implHeights_ev g) (ev_call (max_ev g) ?_)
  rw [show ((hgh p : Nat) : Int) - 1 + 1 = ((hgh p : Nat) : Int) by omega, wrap_id (by omega) (by omega), Int.toNat_natCast]
  refine ev_pos (by omega) (ev_pos (by omega) ?_)
  have := implRanks_l0 g p.length 0 (by omega)
  have e : List.replicate (hgh p) (0 : Int) = toI (rks p (hgh p) 0) := by
    rw [show (0 : Int) = ((0 : Nat) : Int) from rfl, toI_rep]
    congr 1
    exact (List.eq_replicate_iff.mpr ⟨by simp [rks], by simp [rks, mask]⟩).symm
  rw [e]; exact this
theorem specRanks_l1 {p : List Nat} (g : Good p) (i : Nat) (hi : i < p.length) (r : List Int) (c : Ev (fun k => spec_rvRanks.l0 k (toI (rks p (mxs p (i + 1)) (i + 1))) (toI (ht p)) ((toI (ht p)).length : Int) ((i + 1 : Nat) : Int)) r) : ∀ (d M : Nat), hh p i + 1 ≤ M + d → mxs p i ≤ M → M ≤ mxs p (i + 1) →
    Ev (fun k => spec_rvRanks.l1 k (toI (rks p M i)) (i : Int) ((hh p i : Nat) : Int) (toI (ht p)) ((toI (ht p)).length : Int) (i : Int)) r
  | d, M, h, h1, h2 => by
    have gl := g.le
    have hle := hh_le p i
    have hM := mxs_le p (i + 1)
    by_cases hc : M ≤ hh p i
    · match d, h with
      | 0, h => omega
      | d + 1, h =>
        refine Ev.step (fun _ => spec_rvRanks.l1.eq_2 ..) (ev_pos (by rw [toI_len, rks_len]; omega) (ev_pos (by rw [toI_len, rks_len]; omega) ?_))
        rw [rks_grow p h1]
        exact specRanks_l1 g i hi r c d (M + 1) (by omega) (by omega) (by unfold mxs; omega)
    · refine Ev.step (fun _ => spec_rvRanks.l1.eq_2 ..) (ev_neg (by rw [toI_len, rks_len]; omega) (ev_pos (by omega) (ev_pos (by rw [toI_len, rks_len]; omega) (ev_pos (by omega) ?_))))
      have h3 : 2 ^ i < 2 ^ 63 := Nat.pow_lt_pow_right (by decide) (by omega)
      have hml := Go.Proofs.Ytpcehliabaakeaa.M.lt63 (mask_lt p (hh p i) i) (by omega)
      rw [rd_toI, rks_get p (by omega), shl_one (by omega), bits_or hml h3, Int.toNat_natCast, toI_set, rks_set, wrap_succ (by omega)]
      have e : M = mxs p (i + 1) := by
        have : mxs p (i + 1) = max (mxs p i) (hh p i + 1) := rfl
        omega
      rw [e]; exact c
theorem specRanks_l0 {p : List Nat} (g : Good p) : ∀ (d i : Nat), i + d = p.length → Ev (fun k => spec_rvRanks.l0 k (toI (rks p (mxs p i) i)) (toI (ht p)) ((toI (ht p)).length : Int) (i : Int)) (toI (ranks p))
  | 0, i, h => by
    refine Ev.step (fun _ => spec_rvRanks.l0.eq_2 ..) (ev_neg (by rw [toI_len, ht_len]; omega) ?_)
    obtain rfl : i = p.length := by omega
    exact Ev.now _
  | d + 1, i, h => by
    have gl := g.le
    have ei : rd (toI (ht p)) (i : Int) = ((hh p i : Nat) : Int) := rd_toI _ _
    refine Ev.step (fun _ => spec_rvRanks.l0.eq_2 ..) (ev_pos (by rw [toI_len, ht_len]; omega) (ev_pos (by omega) (ev_pos (by rw [toI_len, ht_len]; omega) ?_)))
    rw [ei]
    exact specRanks_l1 g i (by omega) _ (specRanks_l0 g d (i + 1) (by omega)) (hh p i + 1) _ (by omega) (Nat.le_refl _) (by show mxs p i ≤ max _ _; omega)
theorem specRanks_ev {p : List Nat} (g : Good p) : Ev (fun k => spec_rvRanks.f k (toI p)) (toI (ranks p)) :=
  Ev.bind (specHeights_ev g) (specRanks_l0 g p.length 0 (by omega))
theorem ranks_len (p : List Nat) : (ranks p).length = hgh p := rks_len p _ _
theorem high_ev {p : List Nat} (g : Good p) : Ev (fun k => impl_Poset_high.f k (toI p)) (((hgh p - 1 : Nat) : Int)) := by
  have := hgh_le g
  refine Ev.bind (implRanks_ev g) ?_
  rw [toI_len, ranks_len, wrap_id (by omega) (by omega), show ((hgh p : Nat) : Int) - 1 = ((hgh p - 1 : Nat) : Int) by omega]
  exact Ev.now _
end Go.Proofs.Ytpcehliabaakeaa.M
end
section
namespace Go.Proofs.Ytpcehliabaakeaa.M
open Go.RowKit Go.Proofs.YtpcehliabaakeaaW.PrintWords Go.Proofs.YtpcehliabaakeaaW.PrintLast Go.Proofs.YtpcehliabaakeaaW.PrintMore Go.Proofs.Ytpcehliabaakeaa.L
set_option linter.unusedVariables false
def vacFrom (H i d : Nat) : List Nat := (List.range' i d).flatMap fun i => (List.range' i (H + 1 - i)).reverse
def vac (H : Nat) : List Nat := vacFrom H 0 (H + 1)
theorem vacFrom_succ (H i d : Nat) : vacFrom H i (d + 1) = (List.range' i (H + 1 - i)).reverse ++ vacFrom H (i + 1) d := by simp [vacFrom, List.range'_succ]
theorem range'_last (i d : Nat) : (List.range' i (d + 1)).reverse = (i + d) :: (List.range' i d).reverse := by rw [List.range'_1_concat]; simp
theorem vacFrom_len (H : Nat) : ∀ d i, (vacFrom H i d).length ≤ (H + 1) * d
  | 0, i => by simp [vacFrom]
  | d + 1, i => by rw [vacFrom_succ, List.length_append, List.length_reverse, List.length_range', Nat.mul_succ]; have := vacFrom_len H d (i + 1); omega
theorem vac_len {H : Nat} (h : H ≤ 10) : (vac H).length ≤ 121 := by
  have := vacFrom_len H (H + 1) 0
  have : (H + 1) * (H + 1) ≤ 11 * 11 := Nat.mul_le_mul (by omega) (by omega)
  unfold vac; omega
theorem implVac_l1 {H : Nat} (hH : H ≤ 10) (i : Nat) (hi : i ≤ H) (r : List Int) : ∀ (d : Nat) (acc : List Nat), i + d ≤ H + 1 → acc.length + d ≤ 1000 →
    Ev (fun k => impl_vacuation.l0 k (H : Int) (toI (acc ++ (List.range' i d).reverse)) ((H + 1 : Nat) : Int) ((i + 1 : Nat) : Int)) r →
    Ev (fun k => impl_vacuation.l1 k (H : Int) (toI acc) (i : Int) (((i + d : Nat) : Int) - 1) ((H + 1 : Nat) : Int) (i : Int)) r
  | 0, acc, h, ha, c => by
    refine Ev.step (fun _ => impl_vacuation.l1.eq_2 ..) (ev_neg (by omega) ?_)
    rw [wrap_succ (by omega)]
    simpa using c
  | d + 1, acc, h, ha, c => by
    refine Ev.step (fun _ => impl_vacuation.l1.eq_2 ..) (ev_pos (by omega) (ev_pos (by rw [toI_len]; omega) ?_))
    rw [show ((i + (d + 1) : Nat) : Int) - 1 = ((i + d : Nat) : Int) by omega, wrap_id (by omega) (by omega), ← toI_one, ← toI_app]
    refine implVac_l1 hH i hi r d _ (by omega) (by simp; omega) ?_
    rw [range'_last] at c
    rw [List.append_assoc]; exact c
theorem implVac_l0 {H : Nat} (hH : H ≤ 10) : ∀ (d i : Nat) (acc : List Nat), i + d = H + 1 → acc.length + 11 * d ≤ 200 → Ev (fun k => impl_vacuation.l0 k (H : Int) (toI acc) ((H + 1 : Nat) : Int) (i : Int)) (toI (acc ++ vacFrom H i d))
  | 0, i, acc, h, ha => by
    refine Ev.step (fun _ => impl_vacuation.l0.eq_2 ..) (ev_neg (by omega) ?_)
    simpa [vacFrom] using Ev.now (toI acc)
  | d + 1, i, acc, h, ha => by
    refine Ev.step (fun _ => impl_vacuation.l0.eq_2 ..) (ev_pos (by omega) ?_)
    have e : ((H : Nat) : Int) = ((i + (H + 1 - i) : Nat) : Int) - 1 := by omega
    have := implVac_l1 hH i (by omega) (toI (acc ++ vacFrom H i (d + 1))) (H + 1 - i) acc (by omega) (by omega) (by
      rw [vacFrom_succ, ← List.append_assoc]
      exact implVac_l0 hH d (i + 1) _ (by omega) (by simp; omega))
    rw [← e] at this; exact this
theorem implVac_ev {H : Nat} (hH : H ≤ 10) : Ev (fun k => impl_vacuation.f k (H : Int)) (toI (vac H)) := by
  unfold impl_vacuation.f
  rw [wrap_succ (by omega)]
  exact implVac_l0 hH (H + 1) 0 [] (by omega) (by simp; omega)
theorem specVac_l1 {H : Nat} (hH : H ≤ 10) (i : Nat) (hi : i ≤ H) (r : List Int) : ∀ (d : Nat) (acc : List Nat), i + d ≤ H + 1 → acc.length + d ≤ 1000 →
    Ev (fun k => spec_rvVacuate.l0 k (H : Int) (toI (acc ++ (List.range' i d).reverse)) ((i + 1 : Nat) : Int)) r →
    Ev (fun k => spec_rvVacuate.l1 k (H : Int) (toI acc) (i : Int) (((i + d : Nat) : Int) - 1)) r
  | 0, acc, h, ha, c => by
    refine Ev.step (fun _ => spec_rvVacuate.l1.eq_2 ..) (ev_neg (by omega) ?_)
    rw [wrap_succ (by omega)]
    simpa using c
  | d + 1, acc, h, ha, c => by
    refine Ev.step (fun _ => spec_rvVacuate.l1.eq_2 ..) (ev_pos (by omega) (ev_pos (by rw [toI_len]; omega) ?_))
    rw [show ((i + (d + 1) : Nat) : Int) - 1 = ((i + d : Nat) : Int) by omega, wrap_id (by omega) (by omega), ← toI_one, ← toI_app]
    refine specVac_l1 hH i hi r d _ (by omega) (by simp; omega) ?_
    rw [range'_last] at c
    rw [List.append_assoc]; exact c
theorem specVac_l0 {H : Nat} (hH : H ≤ 10) : ∀ (d i : Nat) (acc : List Nat), i + d = H + 1 → acc.length + 11 * d ≤ 200 → Ev (fun k => spec_rvVacuate.l0 k (H : Int) (toI acc) (i : Int)) (toI (acc ++ vacFrom H i d))
  | 0, i, acc, h, ha => by
    refine Ev.step (fun _ => spec_rvVacuate.l0.eq_2 ..) (ev_neg (by omega) ?_)
    simpa [vacFrom] using Ev.now (toI acc)
  | d + 1, i, acc, h, ha => by
    refine Ev.step (fun _ => spec_rvVacuate.l0.eq_2 ..) (ev_pos (by omega) ?_)
    have e : ((H : Nat) : Int) = ((i + (H + 1 - i) : Nat) : Int) - 1 := by omega
    have := specVac_l1 hH i (by omega) (toI (acc ++ vacFrom H i (d + 1))) (H + 1 - i) acc (by omega) (by omega) (by
      rw [vacFrom_succ, ← List.append_assoc]
      exact specVac_l0 hH d (i + 1) _ (by omega) (by simp; omega))
    rw [← e] at this; exact this
theorem specVac_ev {p : List Nat} (g : Good p) : Ev (fun k => spec_rvVacuate.f k (toI p)) (toI (vac (hgh p - 1))) := by
  have h := hgh_le g
  refine Ev.bind (specRanks_ev g) ?_
  rw [toI_len, ranks_len, wrap_id (by omega) (by omega), show ((hgh p : Nat) : Int) - 1 = ((hgh p - 1 : Nat) : Int) by omega]
  exact specVac_l0 (by omega) (hgh p - 1 + 1) 0 [] (by omega) (by simp; omega)
end Go.Proofs.Ytpcehliabaakeaa.M
end
section
namespace Go.Proofs.Ytpcehliabaakeaa.M
open Go.RowKit Go.Proofs.YtpcehliabaakeaaW.PrintWords Go.Proofs.YtpcehliabaakeaaW.PrintLast Go.Proofs.YtpcehliabaakeaaW.PrintMore Go.Proofs.Ytpcehliabaakeaa.L
set_option linter.unusedVariables false
theorem agree_FnExactRowvacuationWord (l : List Int) (hl : l.length ≤ 1048576) : ∃ r : List Int × Bool, r.1.length ≤ 1000 ∧ Ev (fun k => spec_RowvacuationWord.f k l) r ∧ Ev (fun k => impl_RowvacuationWord.f k l) r := by
  by_cases h : rgB l = true
  · obtain ⟨p, rfl, g, hr⟩ := rgB_of h
    have gh := hgh_le g
    have hv := vac_len (H := hgh p - 1) (by omega)
    by_cases hc : ((toI (vac (hgh p - 1))).length : Int) > 40
    · exact ⟨([], false), Nat.zero_le _, Ev.bind (rvGood_ev _) (ev_pos h (Ev.bind (specVac_ev g) (ev_pos hc (Ev.now _)))), Ev.bind (isRanked_ev _) (ev_pos h (Ev.bind (high_ev g) (Ev.bind (implVac_ev (by omega)) (ev_pos hc (Ev.now _)))))⟩
    · exact ⟨(toI (vac (hgh p - 1)), true), by rw [toI_len]; omega, Ev.bind (rvGood_ev _) (ev_pos h (Ev.bind (specVac_ev g) (ev_neg hc (Ev.now _)))), Ev.bind (isRanked_ev _) (ev_pos h (Ev.bind (high_ev g) (Ev.bind (implVac_ev (by omega)) (ev_neg hc (Ev.now _)))))⟩
  · exact ⟨([], false), Nat.zero_le _, Ev.bind (rvGood_ev _) (ev_neg h (Ev.now _)), Ev.bind (isRanked_ev _) (ev_neg h (Ev.now _))⟩
end Go.Proofs.Ytpcehliabaakeaa.M
end
section
namespace Go.Proofs.Ytpcehliabaakeaa.M
open Go.RowKit Go.Proofs.YtpcehliabaakeaaW.PrintWords Go.Proofs.YtpcehliabaakeaaW.PrintLast Go.Proofs.YtpcehliabaakeaaW.PrintMore Go.Proofs.Ytpcehliabaakeaa.L
theorem szIntS_eq (l : List Int) (h : l.length ≤ maxLen) : laws_szIntS.f l 1048576 = some (if 1048576 < l.length then -1 else 1048576 - (l.length : Int)) := by
  unfold maxLen at h
  unfold laws_szIntS.f
  rw [wrap_id (by omega) (by omega)]
  by_cases h2 : 1048576 < l.length
  · rw [if_pos (by omega), if_pos h2]
  · rw [if_neg (by omega), if_neg h2]
theorem szPoset_eq (l : List Int) (h : l.length ≤ maxLen) : laws_szPoset.f l 1048576 = some (if 1048576 < l.length then -1 else 1048576 - (l.length : Int)) := by
  unfold laws_szPoset.f
  rw [szIntS_eq l h, Option.bind_some]
  split
  · rfl
  · rw [if_neg (by omega)]
theorem toPoset_ev (l : List Int) (hl : l.length ≤ 35184372088832) : Ev (fun k => laws_toPoset.f k l) l := Ev.bind (toIntS_ev l hl) (Ev.now _)
theorem eqPoset_ev (a b : List Int) (hl : a.length ≤ 9223372036854775806) : Ev (fun k => laws_eqPoset.f k a b) (decide (a = b)) := by
  refine Ev.bind (eqIntS_ev a b hl) (ev_ite (fun e => ?_) (fun e => ?_))
  · rw [e]; exact Ev.now _
  · rw [Bool.eq_false_iff.mpr e]; exact Ev.now _
theorem eqPoset_refl (a : List Int) (hl : a.length ≤ 9223372036854775806) : Ev (fun k => laws_eqPoset.f k a a) true := by simpa using eqPoset_ev a a hl
theorem eqIntS_refl (a : List Int) (hl : a.length ≤ 9223372036854775806) : Ev (fun k => laws_eqIntS.f k a a) true := by simpa using eqIntS_ev a a hl
theorem markPoset_ev (l : List Int) (q : Nat) (hl : l.length ≤ 4611686018427387903) (hq : q ≤ 4611686018427387903) : Ev (fun k => laws_markPoset.f k l (q : Int)) (((q + l.length : Nat) : Int), marks q l.length) := Ev.bind (markIntS_ev l q hl hq) (Ev.now _)
end Go.Proofs.Ytpcehliabaakeaa.M
end
section
namespace Go.Proofs.Ytpcehliabaakeaa.Pure
open Go.RowKit Go.Proofs.YtpcehliabaakeaaW.PrintWords Go.Proofs.YtpcehliabaakeaaW.PrintLast Go.Proofs.YtpcehliabaakeaaW.PrintMore Go.Proofs.Ytpcehliabaakeaa.L Go.Proofs.Ytpcehliabaakeaa.M
theorem FnExactRowvacuationWord : laws_FnExactRowvacuationWord.Pure2 := by
  intro l0 hm0 hw0
  refine Ev.rounds ?_
  refine ev_call (szPoset_eq l0 hm0) ?_
  by_cases b0 : 1048576 < l0.length
  · rw [if_pos b0]; exact ev_pos (by decide) (Ev.now _)
  rw [if_neg b0]
  refine ev_neg (by omega) ?_
  have T0 := toPoset_ev l0 (by omega)
  have E0 := eqPoset_refl l0 (by omega)
  have M0 := markPoset_ev l0 (1) (by omega) (by omega)
  obtain ⟨r, hr, hs, hi⟩ := agree_FnExactRowvacuationWord l0 (by omega)
  have Er := eqIntS_refl r.1 (by omega)
  have Mr := markIntS_ev r.1 1 (by omega) (by omega)
  have Hr := heldIntS_ev 1 r.1.length (by omega) (by omega)
  repeat' first
    | with_reducible exact Ev.now true
    | with_reducible refine Ev.bind hs ?_
    | with_reducible refine Ev.bind hi ?_
    | with_reducible refine Ev.bind T0 ?_
    | with_reducible refine Ev.bind E0 ?_
    | with_reducible refine Ev.bind M0 ?_
    | with_reducible refine Ev.bind Er ?_
    | with_reducible refine Ev.bind Mr ?_
    | with_reducible refine Ev.bind Hr ?_
    | with_reducible refine Ev.step (fun _ => laws_FnExactRowvacuationWord.j0.eq_2 ..) ?_
    | with_reducible refine Ev.step (fun _ => laws_FnExactRowvacuationWord.j1.eq_2 ..) ?_
    | with_reducible refine Ev.step (fun _ => laws_FnExactRowvacuationWord.j2.eq_2 ..) ?_
    | with_reducible refine ev_pos rfl ?_
    | (with_reducible refine ev_neg ?h ?_; case h => first | (simp; done) | omega | (simp only; omega) | (simp; omega))
end Go.Proofs.Ytpcehliabaakeaa.Pure
end
section
namespace Go.Proofs.Ytpcehliabaakeaa.R
open Go.ChangeShapes Go.WideShapes Go.ChangeAt Go.RowKit
open Go.ChangeMaps (open_string shut_string)
set_option linter.unusedVariables false
def IsRow (k : IntKind) (w : World) (a : Option Addr) (len cap : Nat) (zs : List Int) : Prop :=
  (a = none ∧ len = 0 ∧ cap = 0 ∧ zs = []) ∨
  ∃ x, a = some x ∧ len ≤ cap ∧ cap ≤ maxLen ∧ zs.length = cap ∧ (∀ i, i < zs.length → w.cell? (x.add i) = some (.int k (zs.getD i 0))) ∧ ∀ n ∈ zs, (Lit.int k n).wf = true
variable {H : Type} {enc : TypeId × Value → H} {P : Program} {W : World} {base : Nat} {ps : List MemPlace}
theorem row_of {t e : TypeId} {k : IntKind} {fuel : Nat} {c : Value} {y : DataW H × List MemPlace} (hu : P.underlying t = some (.slice e)) (he : P.underlying e = some (.int k)) (hc : P.cellsOf e = 1)
    (hf : DataW.trod enc P W 0 (fun _ => true) true fuel t [c] = some y) : ∃ a len cap zs, c = .slice a len cap ∧ IsRow k W a len cap zs := by
  rcases open_ints hu he hc hf with ⟨hcs, _⟩ | ⟨x, l, c', zs, hcs, _, hl, hm, hz, _, hcell, hwz⟩
  · simp only [List.cons.injEq, and_true] at hcs
    subst hcs
    exact ⟨_, _, _, [], rfl, .inl ⟨rfl, rfl, rfl, rfl⟩⟩
  · simp only [List.cons.injEq, and_true] at hcs
    subst hcs
    exact ⟨_, _, _, zs, rfl, .inr ⟨_, rfl, hl, hm, by simpa using hz, hcell, hwz⟩⟩
theorem array1 {α : Type} {cs : Array α} (h : cs.size = 1) : ∃ c0, cs = #[c0] := by
  obtain ⟨l⟩ := cs
  match l, h with
  | [c0], _ => exact ⟨c0, rfl⟩
theorem open_poset {r : Reach} {t e : TypeId} {f : Field} {v : Value} {d : DataW H} (hs : P.underlying t = some (.struct #[f])) (ho : f.offset = 0) (hC : P.cellsOf t = 1) (hfc : P.cellsOf f.type = 1) (hu : P.underlying f.type = some (.slice e)) (he : P.underlying e = some (.int .i64)) (hc : P.cellsOf e = 1)
    (hv : Value.okWide P W r base t v) (h : DataW.Trod enc P W 0 (fun _ => true) true t v d ps) : ∃ a len cap zs, v = .agg #[.slice a len cap] ∧ IsRow .i64 W a len cap zs := by
  obtain ⟨cs, rfl, hsz⟩ := okWide_struct hs hv
  obtain ⟨c0, rfl⟩ := array1 (hsz.trans hC)
  obtain ⟨fuel, hf⟩ := h
  obtain ⟨y0, n, _, _, h0⟩ := trod_struct1 hs hf
  rw [ho, hfc] at h0
  obtain ⟨a, len, cap, zs, rfl, hz⟩ := row_of hu he hc (by simpa [Value.cells] using h0)
  exact ⟨a, len, cap, zs, rfl, hz⟩
theorem open_desk {r : Reach} {t e : TypeId} {f f1 g : Field} {v : Value} {d : DataW H} (hs : P.underlying t = some (.struct #[f, f1])) (ho : f.offset = 0) (ho1 : f1.offset = 1) (hC : P.cellsOf t = 2) (hfc : P.cellsOf f.type = 1) (hfc1 : P.cellsOf f1.type = 1)
    (hs2 : P.underlying f.type = some (.struct #[g])) (hgo : g.offset = 0) (hgc : P.cellsOf g.type = 1) (hu : P.underlying g.type = some (.slice e)) (he : P.underlying e = some (.int .i64)) (hc : P.cellsOf e = 1) (hi : P.underlying f1.type = some (.int .i64))
    (hv : Value.okWide P W r base t v) (h : DataW.Trod enc P W 0 (fun _ => true) true t v d ps) : ∃ a len cap zs x, v = .agg #[.slice a len cap, .int .i64 x] ∧ IsRow .i64 W a len cap zs ∧ (Lit.int .i64 x).wf = true := by
  obtain ⟨cs, rfl, hsz⟩ := okWide_struct hs hv
  obtain ⟨c0, c1, rfl⟩ := Joins.array2 (hsz.trans hC)
  obtain ⟨fuel, hf⟩ := h
  obtain ⟨y0, y1, n, _, _, h0, h1⟩ := trod_struct2 hs hf
  rw [ho, hfc] at h0
  rw [ho1, hfc1] at h1
  obtain ⟨z0, m, _, _, h00⟩ := trod_struct1 hs2 h0
  rw [hgo, hgc] at h00
  obtain ⟨a, len, cap, zs, rfl, hz⟩ := row_of hu he hc (by simpa [Value.cells] using h00)
  obtain ⟨x, e0, e1, wx⟩ := DataW.trod_int hi h1
  simp [Value.cells] at e0
  subst e0
  exact ⟨a, len, cap, zs, x, rfl, hz, wx⟩
end Go.Proofs.Ytpcehliabaakeaa.R
end
section
namespace Go.Proofs.Ytpcehliabaakeaa.fnExactRowvacuationWord
open Go.ChangeShapes Go.WideShapes Go.ChangeAt Go.RowKit Go.Proofs.YtpcehliabaakeaaW.PrintWords Go.Proofs.Ytpcehliabaakeaa.R
open Go.ChangeMaps (open_string shut_string)
set_option linter.unusedVariables false
theorem own : ownKnob Try.prog.godebug = none := by kernel_rfl
theorem laidOut : laidOutB Try.prog = true := by kernel_rfl
set_option maxRecDepth 100000 in
theorem lifted (os : Os) (started : os.Started) (H : Type) (enc : TypeId × Value → H) :
    ReturnsInHanded {} Try.checked os 12 .any (Rows.fnExactRowvacuationWordSpec.pre6 enc Try.prog Try.f12 Rows.fnExactRowvacuationWordRow.domain false) (Rows.fnExactRowvacuationWordSpec.post enc Try.prog Try.f12 false true false false) := by
  refine returnsInHanded_of_change_sized (C := Try.checked) own started (by kernel_rfl) Try.func12
    (ChangeSpec.witness6 (enc := enc) (C := Try.checked) false ⟨#[], #[.agg #[.slice none 0 0]], []⟩ 8 (by kernel_rfl) (by kernel_rfl) (by kernel_rfl) (by kernel_rfl)) ?_
  intro W base args ds gs before hval0 hW hcnd hsz0 _
  have hval : ∀ (j : Nat) t v, Try.f12.params[j]? = some t → args[j]? = some v → Value.okWide Try.prog W .any base t v := hval0
  have hW' := hW
  obtain ⟨p, q, hA0, hV, rfl, hfz, hnd⟩ := hW
  have hA : DataW.TrodAll enc Try.prog W 0 (fun _ => true) true Try.f12.params.toList args.toList ds p := hA0
  rw [Try.params12] at hA hval
  obtain ⟨v0, vs0, d0, ds0, p0, q0, hargs, rfl, rfl, h0, r0⟩ := trodAll_cons hA
  obtain ⟨rfl, rfl, rfl⟩ := trodAll_nil r0
  obtain rfl : args = #[v0] := by cases args; simp_all
  obtain ⟨rfl, rfl⟩ := trodVars_none hV
  have k0 := h0
  have lt0 : ∀ x ∈ p0, x.block < W.heap.size := by obtain ⟨m, hm⟩ := k0; exact DataW.trod_lt m _ _ _ hm
  obtain ⟨A0, len0, cap0, z0, rfl, w0⟩ := open_poset Try.underlying24 rfl (by kernel_rfl) (by kernel_rfl) Try.underlying22 Try.underlying3 (by kernel_rfl) (hval 0 24 v0 rfl rfl) h0
  obtain ⟨l0, rfl, hr0, hm0, hw0, hc0⟩ := ReadsInt.ofRowC w0
  clear hA0 hval0 hsz0
  obtain ⟨k, hp⟩ := Pure.FnExactRowvacuationWord l0 hm0 hw0
  refine (L.laws_FnExactRowvacuationWord.calls k _ _ l0 true W (Kd.C_of_reads (d := (0 : Int)) (h1 := fun _ => rfl) hr0) hc0 hp).mono fun e W' ⟨he, hd⟩ => ?_
  have bel : Below W.heap.size W W' := hd
  subst he
  exact ⟨_, rfl, _, _, _, [], _, [], hW', trodAll_mk1 (shut_bool Try.underlying4 _), (trodAll_cons_mk (Below.trod laidOut (by kernel_rfl) (of_decide_eq_true (by kernel_rfl)) k0 bel lt0) trodAll_mk0), rfl, bel.frame _, fun h => by cases h⟩
theorem over : Rows.fnExactRowvacuationWordRow.holds Try.pinned (OpenSpec.ofChange Rows.fnExactRowvacuationWordSpec) :=
  OpenClaim.holds_of_wide 12 Try.f12 rfl rfl rfl rfl rfl rfl rfl ⟨rfl, rfl, rfl, rfl, rfl⟩ rfl rfl rfl rfl rfl (by kernel_rfl) Try.func12 (by kernel_rfl)
    (of_decide_eq_true (by kernel_rfl)) (by unfold Func.isWrapper; first | (rw [if_pos (by decide +kernel)]; kernel_rfl) | (rw [if_neg (by decide +kernel)]; exact ⟨rfl, rfl⟩))
    (fun os started H enc _ => lifted os started H enc)
theorem proved : Rows.FnExactRowvacuationWordSaid := over
end Go.Proofs.Ytpcehliabaakeaa.fnExactRowvacuationWord
namespace Go.Proofs.Ytpcehliabaakeaa
theorem fnExactRowvacuationWord_holds : Rows.FnExactRowvacuationWordSaid := fnExactRowvacuationWord.proved
end Go.Proofs.Ytpcehliabaakeaa
end
