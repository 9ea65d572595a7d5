/- Laws about the given program: the law FnExactGyrateBack answers true for every input that its row lets in; no condition is added to the given statement. Contracts of the Go functions that it reaches, and the plain proof over lists. -/
import Derived.Below
import Derived.ChangeOld
import Derived.Lib.SmallJoins
import Derived.OpenShut
import Derived.ProofKit
import Derived.ShutString
import Derived.SizedLaws
import Derived.WalkKit
import Derived.Test.YtpdgiinedbdamaaW0
import Derived.Test.YtpdgiinedbdamaaW1
import Derived.Test.YtpdgiinedbdamaaKFnExactGyrateBack0
import Derived.Test.YtpdgiinedbdamaaKFnExactGyrateBack1
import Derived.Test.YtpdgiinedbdamaaKFnExactGyrateBack2
import Derived.Test.YtpdgiinedbdamaaKFnExactGyrateBack3
import Derived.Test.YtpdgiinedbdamaaKFnExactGyrateBack4
import Derived.Test.YtpdgiinedbdamaaKFnExactGyrateBack5
import Derived.Test.YtpdgiinedbdamaaKFnExactGyrateBack6
section
namespace Go.Proofs.Ytpdgiinedbdamaa.L
open Go.RowKit Go.Proofs.YtpdgiinedbdamaaW.PrintWords Go.Proofs.YtpdgiinedbdamaaW.PrintLast Go.Proofs.YtpdgiinedbdamaaW.PrintMore
attribute [local go_sem] max2_int min2_int max_two min_two max_three min_three max_four min_four
set_option linter.unusedVariables false
set_option linter.unusedSimpArgs false
def laws_heldIntS.l0 : Nat → List Int → Int → Int → Option (Int)
  | 0, _, _, _ => none
  | k + 1, x0, x1, x5 => if x5 < (x0.length : Int) then (if 0 ≤ x5 then (if (rd x0 x5) = x1 then (laws_heldIntS.l0 k x0 (wrap64 (x1 + 1)) (wrap64 (x5 + 1))) else (some (-1))) else (none)) else (some x1)
def laws_heldIntS.f (k : Nat) (l0 : List Int) (a1 : Int) : Option (Int) := laws_heldIntS.l0 k l0 a1 0
theorem laws_heldIntS.mono_l : ∀ k, (∀ y0 y1 y2, LeO (laws_heldIntS.l0 k y0 y1 y2) (laws_heldIntS.l0 (k + 1) y0 y1 y2))
  | 0 => fun _ _ _ r h => by simp [laws_heldIntS.l0] at h
  | k + 1 => by
    have ih0 := laws_heldIntS.mono_l k
    · intro y0 y1 y2
      unfold laws_heldIntS.l0
      repeat' first
      | (with_reducible exact ih0 _ _ _)
      | (with_reducible exact LeO.refl _)
      | (with_reducible exact LeO.none _)
      | (with_reducible refine LeO.ite ?_ ?_)
      | (with_reducible refine LeO.bind ?_ (fun _ => ?_))
      | exact ih0 _ _ _
      | exact LeO.none _
      | refine LeO.ite ?_ ?_
      | refine LeO.bind ?_ (fun _ => ?_)
theorem laws_heldIntS.mono : ∀ a0 a1 k, LeO (laws_heldIntS.f k a0 a1) (laws_heldIntS.f (k + 1) a0 a1) := by
  intro a0 a1 k
  have ih0 := laws_heldIntS.mono_l k
  unfold laws_heldIntS.f
  repeat' first
      | (with_reducible exact ih0 _ _ _)
      | (with_reducible exact LeO.refl _)
      | (with_reducible exact LeO.none _)
      | (with_reducible refine LeO.ite ?_ ?_)
      | (with_reducible refine LeO.bind ?_ (fun _ => ?_))
      | exact ih0 _ _ _
      | exact LeO.none _
      | refine LeO.ite ?_ ?_
      | refine LeO.bind ?_ (fun _ => ?_)
set_option maxHeartbeats 8000000 in
set_option maxRecDepth 100000 in
theorem laws_heldIntS.calls (k : Nat) (A0 : Option Addr) (c0 : Nat) (l0 : List Int) (a1 : Int) (r : Int) (w : World) (hr0 : Kd.C (Kd.int .i64) w A0 l0.length l0) (hc0 : l0.length ≤ c0) (h : laws_heldIntS.f k l0 a1 = some r) :
    Calls Try.prog 38 #[.slice A0 l0.length c0, .int .i64 a1] w fun e w' => e = .returned (.int .i64 r) ∧ Drawn0 w w' := by
  have HR0 := Aside0.mk hr0
  have HC0 := Aside0.mk hc0
  clear hr0 hc0
  have H : (laws_heldIntS.l0 k l0 a1 0) = some r := h
  clear h
  have H' := Aside0.mk H
  clear H
  go_enter Try.func38, Try.ntmps38
  go_wp2
  go_loopg [1, 5] k (fun kq v1 v5 w' => ∃ (x1_1 : Int) (x5_1 : Int), v1 = .int .i64 x1_1 ∧ v5 = .int .i64 x5_1 ∧ Aside0 (laws_heldIntS.l0 kq l0 x1_1 x5_1 = some r) ∧ Aside0 (kq ≤ k) ∧ Drawn0 w w')
  case atStart => exact ⟨(a1), (0), (by first | rfl | (simp; done) | (simp [*]; done)), (by first | rfl | (simp; done) | (simp [*]; done)), H', ⟨Nat.le_refl _⟩, by repeat (first | exact Drawn0.refl _ | apply Drawn0.step)⟩
  case round =>
    clear H'
    try clear p2
    obtain ⟨x1_1, x5_1, rfl, rfl, HA, HK1, ⟨m1, rfl⟩⟩ := hrel
    cases gk with
    | zero => exact absurd HA.out (by simp [laws_heldIntS.l0])
    | succ k1 =>
      have H := HA.out
      clear HA
      simp only [laws_heldIntS.l0] at H
      by_cases c3 : x5_1 < (l0.length : Int)
      · rw [if_pos c3] at H
        have c3b0 : decide (x5_1 < (l0.length : Int)) = true := decide_eq_true c3
        clear c3
        by_cases c4 : 0 ≤ x5_1
        · rw [if_pos c4] at H
          have c4b0 : decide (0 ≤ x5_1) = true := decide_eq_true c4
          clear c4
          by_cases c5 : (rd l0 x5_1) = x1_1
          · rw [if_pos c5] at H
            have c5b0 : ((rd l0 x5_1) == x1_1) = true := beq_iff_eq.mpr c5
            have c5b1 : ((rd l0 x5_1) != x1_1) = false := bne_eq_false_iff_eq.mpr c5
            clear c5
            have H' := Aside0.mk H
            clear H
            have p482 : 0 ≤ (x5_1 : Int) := of_decide_eq_true (by first | (with_reducible assumption) | assumption)
            have q482 : x5_1 < (l0.length : Int) := of_decide_eq_true (by first | (with_reducible assumption) | assumption)
            obtain ⟨ad482, e482, hx482_0⟩ := Kd.at_int HR0.out x5_1 p482 q482
            cases e482
            replace p482 := eq_true p482
            replace q482 := eq_true q482
            go_wp2
            go_roundg k1
            case measure => have := HK1.out; omega
            case rel => exact ⟨(wrap64 (x1_1 + 1)), (wrap64 (x5_1 + 1)), (by first | rfl | (simp; done) | (simp [*]; done)), (by first | rfl | (simp; done) | (simp [*]; done)), H', ⟨by have := HK1.out; omega⟩, by repeat (first | exact Drawn0.refl _ | apply Drawn0.step)⟩
          · rw [if_neg c5] at H
            have c5b0 : ((rd l0 x5_1) == x1_1) = false := beq_eq_false_iff_ne.mpr c5
            have c5b1 : ((rd l0 x5_1) != x1_1) = true := bne_iff_ne.mpr c5
            obtain rfl := Option.some.inj H
            have p482 : 0 ≤ (x5_1 : Int) := of_decide_eq_true (by first | (with_reducible assumption) | assumption)
            have q482 : x5_1 < (l0.length : Int) := of_decide_eq_true (by first | (with_reducible assumption) | assumption)
            obtain ⟨ad482, e482, hx482_0⟩ := Kd.at_int HR0.out x5_1 p482 q482
            cases e482
            replace p482 := eq_true p482
            replace q482 := eq_true q482
            go_wp2
            go_ret
            exact ⟨by first | rfl | (simp; done) | (simp [*]; done), by repeat (first | exact Drawn0.refl _ | apply Drawn0.step)⟩
        · rw [if_neg c4] at H
          exact absurd H (by simp)
      · rw [if_neg c3] at H
        have c3b0 : decide (x5_1 < (l0.length : Int)) = false := decide_eq_false c3
        clear c3
        obtain rfl := Option.some.inj H
        go_wp2
        go_ret
        exact ⟨by first | rfl | (simp; done) | (simp [*]; done), by repeat (first | exact Drawn0.refl _ | apply Drawn0.step)⟩
end Go.Proofs.Ytpdgiinedbdamaa.L
end
section
namespace Go.Proofs.Ytpdgiinedbdamaa.M
open Go.RowKit Go.Proofs.YtpdgiinedbdamaaW.PrintWords Go.Proofs.YtpdgiinedbdamaaW.PrintLast Go.Proofs.YtpdgiinedbdamaaW.PrintMore Go.Proofs.Ytpdgiinedbdamaa.L
theorem toIntS_l0 (l : List Int) (hl : l.length ≤ 35184372088832) : ∀ (d i : Nat) (acc : List Int), i + d = l.length → acc.length = l.length → Ev (fun k => laws_toIntS.l0 k l acc i) (acc.take i ++ l.drop i)
  | 0, i, acc, h, ha => by
    have h1 : ¬ ((i : Int) < (l.length : Int)) := by omega
    refine Ev.step (fun _ => rfl) (ev_neg h1 ?_)
    rw [List.take_of_length_le (by omega), List.drop_of_length_le (by omega), List.append_nil]
    exact Ev.now _
  | d + 1, i, acc, h, ha => by
    have h1 : (i : Int) < (l.length : Int) := by omega
    refine Ev.step (fun _ => rfl) (ev_pos h1 (ev_pos (by omega) (ev_pos (by omega) ?_)))
    rw [wrap_succ (by omega), rd_get (by omega : i < l.length), Int.toNat_natCast]
    have ih := toIntS_l0 l hl d (i + 1) (acc.set i l[i]) (by omega) (by simp [ha])
    have e : (acc.set i l[i]).take (i + 1) ++ l.drop (i + 1) = acc.take i ++ l.drop i := by
      rw [List.take_succ_eq_append_getElem (by simp; omega), List.getElem_set_self, List.drop_eq_getElem_cons (by omega : i < l.length)]
      simp [List.take_set_of_le]
    rw [← e]; exact ih
theorem toIntS_ev (l : List Int) (hl : l.length ≤ 35184372088832) : Ev (fun k => laws_toIntS.f k l) l := by
  have h := toIntS_l0 l hl l.length 0 (List.replicate l.length 0) (by omega) (by simp)
  exact ev_pos (by omega) (ev_pos (by simpa using hl) (by simpa using h))
theorem eqIntS_l0 (a b : List Int) (hl : a.length ≤ 9223372036854775806) (hab : a.length = b.length) : ∀ (d i : Nat), i + d = a.length → Ev (fun k => laws_eqIntS.l0 k a b i) (decide (a.drop i = b.drop i))
  | 0, i, h => by
    have h1 : ¬ ((i : Int) < (a.length : Int)) := by omega
    refine Ev.step (fun _ => rfl) (ev_neg h1 ?_)
    rw [List.drop_of_length_le (by omega), List.drop_of_length_le (by omega)]
    exact Ev.now _
  | d + 1, i, h => by
    have h1 : (i : Int) < (a.length : Int) := by omega
    refine Ev.step (fun _ => rfl) (ev_pos h1 (ev_pos (by omega) (ev_pos (by omega) ?_)))
    rw [wrap_succ (by omega), rd_get (by omega : i < a.length), rd_get (by omega : i < b.length)]
    rw [List.drop_eq_getElem_cons (by omega : i < a.length), List.drop_eq_getElem_cons (by omega : i < b.length)]
    refine ev_ite (fun e => ?_) (fun e => ?_)
    · rw [decide_eq_decide.mpr (show (a[i] :: a.drop (i + 1) = b[i] :: b.drop (i + 1)) ↔ a.drop (i + 1) = b.drop (i + 1) by rw [List.cons.injEq]; exact ⟨fun z => z.2, fun z => ⟨e, z⟩⟩)]
      exact eqIntS_l0 a b hl hab d (i + 1) (by omega)
    · rw [decide_eq_false (show ¬ (a[i] :: a.drop (i + 1) = b[i] :: b.drop (i + 1)) by rw [List.cons.injEq]; exact fun z => e z.1)]
      exact Ev.now false
theorem eqIntS_ev (a b : List Int) (hl : a.length ≤ 9223372036854775806) : Ev (fun k => laws_eqIntS.f k a b) (decide (a = b)) := by
  refine ev_ite (fun e => ?_) (fun e => ?_)
  · simpa using eqIntS_l0 a b hl (by omega) a.length 0 (by omega)
  · have : ¬ a = b := fun z => e (by rw [z])
    simpa [this] using Ev.now false
def marks (q : Nat) (n : Nat) : List Int := (List.range' q n).map Int.ofNat
theorem marks_len (q n : Nat) : (marks q n).length = n := by simp [marks]
theorem marks_get (q n i : Nat) (h : i < (marks q n).length) : (marks q n)[i] = ((q + i : Nat) : Int) := by simp [marks]
theorem markIntS_l0 (n : Nat) (hn : n ≤ 4611686018427387903) (q : Nat) (hq : q ≤ 4611686018427387903) : ∀ (d i : Nat) (acc : List Int), i + d = n → acc.length = n → (∀ j (hj : j < acc.length), j < i → acc[j] = ((q + j : Nat) : Int)) →
    Ev (fun k => laws_markIntS.l0 k acc ((q + i : Nat) : Int) i) (((q + n : Nat) : Int), marks q n)
  | 0, i, acc, h, ha, hm => by
    have h1 : ¬ ((i : Int) < (acc.length : Int)) := by omega
    refine Ev.step (fun _ => rfl) (ev_neg h1 ?_)
    have e : acc = marks q n := List.ext_getElem (by rw [ha, marks_len]) (fun j h1 h2 => by rw [hm j h1 (by omega), marks_get])
    have e2 : i = n := by omega
    rw [e, e2]; exact Ev.now _
  | d + 1, i, acc, h, ha, hm => by
    have h1 : (i : Int) < (acc.length : Int) := by omega
    refine Ev.step (fun _ => rfl) (ev_pos h1 (ev_pos (by omega) ?_))
    rw [wrap_succ (by omega), wrap_succ (by omega), Int.toNat_natCast]
    refine markIntS_l0 n hn q hq d (i + 1) (acc.set i ((q + i : Nat) : Int)) (by omega) (by simp [ha]) (fun j hj hji => ?_)
    by_cases e : j = i
    · subst e; simp
    · rw [List.getElem_set_ne (by omega)]; exact hm j _ (by omega)
theorem markIntS_ev (l : List Int) (q : Nat) (hl : l.length ≤ 4611686018427387903) (hq : q ≤ 4611686018427387903) : Ev (fun k => laws_markIntS.f k l (q : Int)) (((q + l.length : Nat) : Int), marks q l.length) :=
  markIntS_l0 l.length hl q hq l.length 0 l (by omega) rfl (fun j _ h => by omega)
theorem heldIntS_l0 (q n : Nat) (hn : n ≤ 4611686018427387903) (hq : q ≤ 4611686018427387903) : ∀ (d i : Nat), i + d = n → Ev (fun k => laws_heldIntS.l0 k (marks q n) ((q + i : Nat) : Int) i) ((q + n : Nat) : Int)
  | 0, i, h => by
    have hm := marks_len q n
    have h1 : ¬ ((i : Int) < ((marks q n).length : Int)) := by omega
    refine Ev.step (fun _ => rfl) (ev_neg h1 ?_)
    have e2 : i = n := by omega
    rw [e2]; exact Ev.now _
  | d + 1, i, h => by
    have hm := marks_len q n
    have h1 : (i : Int) < ((marks q n).length : Int) := by omega
    refine Ev.step (fun _ => rfl) (ev_pos h1 (ev_pos (by omega) (ev_pos ?_ ?_)))
    · rw [rd_get (by omega), marks_get]
    · rw [wrap_succ (by omega), wrap_succ (by omega)]
      exact heldIntS_l0 q n hn hq d (i + 1) (by omega)
theorem heldIntS_ev (q n : Nat) (hn : n ≤ 4611686018427387903) (hq : q ≤ 4611686018427387903) : Ev (fun k => laws_heldIntS.f k (marks q n) (q : Int)) ((q + n : Nat) : Int) :=
  heldIntS_l0 q n hn hq n 0 (by omega)
end Go.Proofs.Ytpdgiinedbdamaa.M
end
section
namespace Go.Proofs.Ytpdgiinedbdamaa.M
open Go.RowKit Go.Proofs.YtpdgiinedbdamaaW.PrintWords Go.Proofs.YtpdgiinedbdamaaW.PrintLast Go.Proofs.YtpdgiinedbdamaaW.PrintMore Go.Proofs.Ytpdgiinedbdamaa.L
theorem l1In_eq (x lo hi : Int) : spec_l1In.f x lo hi = some (inB x lo hi) := by
  unfold spec_l1In.f inB
  by_cases h : lo ≤ x <;> simp [h]
theorem within_eq (x lo hi : Int) : impl_within.f x lo hi = some (inB x lo hi) := by
  unfold impl_within.f inB
  by_cases h : lo ≤ x <;> simp [h]
theorem l1All_l0 (l : List Int) (lo hi : Int) (hl : l.length ≤ 9223372036854775806) : ∀ (d i : Nat), i + d = l.length → Ev (fun k => spec_l1All.l0 k lo hi l (l.length : Int) i) ((l.drop i).all (inB · lo hi))
  | 0, i, h => by
    refine Ev.step (fun _ => rfl) (ev_neg (by omega) ?_)
    rw [List.drop_of_length_le (by omega)]; exact Ev.now _
  | d + 1, i, h => by
    refine Ev.step (fun _ => rfl) (ev_pos (by omega) (ev_pos (by omega) (ev_pos (by omega) (ev_call (l1In_eq _ _ _) ?_))))
    rw [rd_get (by omega : i < l.length), wrap_succ (by omega), List.drop_eq_getElem_cons (by omega : i < l.length), List.all_cons]
    refine ev_ite (fun e => ?_) (fun e => ?_)
    · rw [e, Bool.true_and]; exact l1All_l0 l lo hi hl d (i + 1) (by omega)
    · rw [Bool.eq_false_iff.mpr e, Bool.false_and]; exact Ev.now _
theorem l1All_ev (l : List Int) (lo hi : Int) (hl : l.length ≤ 9223372036854775806) : Ev (fun k => spec_l1All.f k l lo hi) (l.all (inB · lo hi)) := l1All_l0 l lo hi hl l.length 0 (by omega)
end Go.Proofs.Ytpdgiinedbdamaa.M
end
section
namespace Go.Proofs.Ytpdgiinedbdamaa.M
open Go.RowKit Go.Proofs.YtpdgiinedbdamaaW.PrintWords Go.Proofs.YtpdgiinedbdamaaW.PrintLast Go.Proofs.YtpdgiinedbdamaaW.PrintMore Go.Proofs.Ytpdgiinedbdamaa.L
set_option linter.unusedVariables false
theorem has_eq {s e : Nat} (hs : s < 2 ^ 63) (he : e ≤ 64) : impl_has.f (s : Int) (e : Int) = some (s.testBit e) := by
  unfold impl_has.f; rw [if_pos (by omega), bit_and hs he]
theorem poIn_eq {s e : Nat} (he : e ≤ 64) : spec_poIn.f (s : Int) (e : Int) = some (s.testBit e) := by
  unfold spec_poIn.f; rw [if_pos (by omega), bit_mod he]
theorem items_l0 (s : Nat) (hs : s < 2 ^ 63) : ∀ (d i : Nat) (acc : List Nat), i + d = 10 → acc.length ≤ i → Ev (fun k => impl_items.l0 k (s : Int) (toI acc) (i : Int)) (toI (acc ++ (List.range' i d).filter fun e => s.testBit e))
  | 0, i, acc, h, ha => by
    refine Ev.step (fun _ => impl_items.l0.eq_2 ..) (ev_neg (by omega) ?_)
    simpa using Ev.now _
  | d + 1, i, acc, h, ha => by
    refine Ev.step (fun _ => impl_items.l0.eq_2 ..) (ev_pos (by omega) (ev_call (has_eq hs (by omega)) ?_))
    rw [wrap_succ (by omega), List.range'_succ]
    refine ev_ite (fun e => ev_pos (by rw [toI_len]; omega) ?_) (fun e => ?_)
    · rw [← toI_one, ← toI_app, List.filter_cons_of_pos e]
      have := items_l0 s hs d (i + 1) (acc ++ [i]) (by omega) (by simp; omega)
      simpa using this
    · rw [List.filter_cons_of_neg e]
      exact items_l0 s hs d (i + 1) acc (by omega) (by omega)
theorem items_ev {s : Nat} (hs : s < 2 ^ 63) : Ev (fun k => impl_items.f k (s : Int)) (toI (items s)) := by
  have h := items_l0 s hs 10 0 [] (by omega) (by simp)
  rw [List.nil_append, ← List.range_eq_range'] at h
  exact h
theorem n_eq (l : List Int) : impl_Poset_n.f l = some (l.length : Int) := rfl
theorem all_eq {p : List Nat} (h : p.length ≤ 10) : impl_Poset_all.f (toI p) = some ((full p : Nat) : Int) := by
  unfold impl_Poset_all.f
  rw [n_eq, Option.bind_some, if_pos (by omega), toI_len, shl_one' (by omega)]; rfl
theorem items_all {m i : Nat} (hm : m < 2 ^ i) (hi : i ≤ 10) (g : Nat → Bool) : (items m).all g = (List.range i).all fun j => !(m.testBit j) || g j := by
  rw [Bool.eq_iff_iff]
  simp only [List.all_eq_true, mem_items, List.mem_range, Bool.or_eq_true, Bool.not_eq_true']
  constructor
  · intro h j hj
    cases hb : m.testBit j
    · exact .inl rfl
    · exact .inr (h j ⟨by omega, hb⟩)
  · rintro h j ⟨_, hb⟩
    rcases h j (bit_lt hm hb) with h2 | h2
    · rw [hb] at h2; cases h2
    · exact h2
theorem pow_small {i : Nat} (h : i ≤ 10) : 2 ^ i ≤ 1024 := by
  have := Nat.pow_le_pow_right (n := 2) (by decide) h
  simpa using this
theorem rd_getD (l : List Int) (i : Nat) : rd l (i : Int) = l.getD i 0 := by simp [rd]
theorem isPoset_l1 (l : List Int) (i m : Nat) (R : Bool) (hl : l.length ≤ 10) (hi : i < l.length) (hm : m < 2 ^ i) (ok : ∀ j, j < i → ∃ a : Nat, l.getD j 0 = (a : Int) ∧ a < 2 ^ j)
    (hR : Ev (fun k => impl_IsPoset.l0 k l (l.length : Int) ((i + 1 : Nat) : Int) l) R) : ∀ (d q : Nat), q + d = (items m).length →
    Ev (fun k => impl_IsPoset.l1 k (m : Int) l (l.length : Int) (i : Int) (toI (items m)) ((toI (items m)).length : Int) (q : Int) l) (((items m).drop q).all (fun j => sd (l.getD j 0).toNat m == 0) && R)
  | 0, q, h => by
    refine Ev.step (fun _ => impl_IsPoset.l1.eq_2 ..) (ev_neg (by rw [toI_len]; omega) ?_)
    rw [List.drop_of_length_le (by omega), List.all_nil, Bool.true_and, wrap_succ (by omega)]
    exact hR
  | d + 1, q, h => by
    have hq : q < (items m).length := by omega
    have hj : (items m)[q] ∈ items m := List.getElem_mem hq
    obtain ⟨_, hb⟩ := mem_items.mp hj
    have hji := bit_lt hm hb
    obtain ⟨a, ha, ha2⟩ := ok _ hji
    have e1 : rd (toI (items m)) (q : Int) = (((items m)[q] : Nat) : Int) := by rw [rd_toI]; simp [List.getD_eq_getElem?_getD, hq]
    have hlen := items_len m
    have hp1 := pow_small (show i ≤ 10 by omega)
    have hp2 := pow_small (show (items m)[q] ≤ 10 by omega)
    refine Ev.step (fun _ => impl_IsPoset.l1.eq_2 ..) ?_
    rw [e1]
    refine ev_pos (by rw [toI_len]; omega) (ev_pos (by omega) (ev_pos (by rw [toI_len]; omega) (ev_pos (by omega) (ev_pos (by omega) ?_))))
    rw [rd_getD, ha, bits_andNot (lt63 ha2 (by omega)) (lt63 hm (by omega)), wrap_succ (by omega), List.drop_eq_getElem_cons hq, List.all_cons, ha, Int.toNat_natCast]
    refine ev_ite (fun e => ?_) (fun e => ?_)
    · have e' : sd a m = 0 := by omega
      rw [e', beq_self_eq_true, Bool.true_and]
      exact isPoset_l1 l i m R hl hi hm ok hR d (q + 1) (by omega)
    · have e' : (sd a m == 0) = false := by rw [beq_eq_false_iff_ne]; omega
      rw [e', Bool.false_and, Bool.false_and]
      exact Ev.now _
theorem isPoset_l0 (l : List Int) (hl : l.length ≤ 10) : ∀ (d i : Nat), i + d = l.length → (∀ j, j < i → ∃ a : Nat, l.getD j 0 = (a : Int) ∧ a < 2 ^ j) →
    Ev (fun k => impl_IsPoset.l0 k l (l.length : Int) (i : Int) l) ((List.range' i d).all (okAt l))
  | 0, i, h, ok => by
    refine Ev.step (fun _ => impl_IsPoset.l0.eq_2 ..) (ev_neg (by omega) ?_)
    exact Ev.now _
  | d + 1, i, h, ok => by
    have hp1 := pow_small (show i ≤ 10 by omega)
    have hpos := Nat.two_pow_pos i
    refine Ev.step (fun _ => impl_IsPoset.l0.eq_2 ..) (ev_pos (by omega) (ev_pos (by omega) (ev_pos (by omega) (ev_call (within_eq _ _ _) ?_))))
    rw [rd_getD, shl_one' (by omega), List.range'_succ, List.all_cons, okAt_def l i]
    refine ev_ite (fun e => ?_) (fun e => ?_)
    · have b := inB_iff.mp e
      obtain ⟨m, hm⟩ : ∃ m : Nat, l.getD i 0 = (m : Int) := ⟨(l.getD i 0).toNat, by omega⟩
      rw [e, Bool.true_and, hm]
      have hm2 : m < 2 ^ i := by omega
      refine Ev.bind (items_ev (lt63 hm2 (by omega))) ?_
      have hnx := isPoset_l0 l hl d (i + 1) (by omega) (fun j hj => by
        by_cases hji : j = i
        · subst hji; exact ⟨m, hm, hm2⟩
        · exact ok j (by omega))
      have := isPoset_l1 l i m _ hl (by omega) hm2 ok hnx (items m).length 0 (by omega)
      rw [List.drop_zero, items_all hm2 (by omega)] at this
      simpa using this
    · rw [Bool.eq_false_iff.mpr e, Bool.false_and, Bool.false_and]
      exact Ev.now _
theorem isPoset_ev (l : List Int) : Ev (fun k => impl_IsPoset.f k l) (goodB l) := by
  refine ev_call (n_eq l) (ev_call (within_eq _ _ _) ?_)
  unfold goodB
  refine ev_ite (fun e => ?_) (fun e => ?_)
  · have b := inB_iff.mp e
    rw [e, Bool.true_and]
    exact isPoset_l0 l (by omega) l.length 0 (by omega) (fun j hj => by omega)
  · rw [Bool.eq_false_iff.mpr e, Bool.false_and]; exact Ev.now _
theorem poGood_l1 (l : List Int) (i m : Nat) (R : Bool) (hl : l.length ≤ 10) (hi : i < l.length) (hm : m < 2 ^ i) (ok : ∀ j, j < i → ∃ a : Nat, l.getD j 0 = (a : Int) ∧ a < 2 ^ j)
    (hR : Ev (fun k => spec_poGood.l0 k l (l.length : Int) ((i + 1 : Nat) : Int) l) R) : ∀ (d j : Nat), j + d = i →
    Ev (fun k => spec_poGood.l1 k (i : Int) (m : Int) (j : Int) l (l.length : Int) (i : Int) l) ((List.range' j d).all (fun j => !(m.testBit j) || sd (l.getD j 0).toNat m == 0) && R)
  | 0, j, h => by
    refine Ev.step (fun _ => spec_poGood.l1.eq_2 ..) (ev_neg (by omega) ?_)
    rw [wrap_succ (by omega)]
    simpa using hR
  | d + 1, j, h => by
    obtain ⟨a, ha, ha2⟩ := ok j (by omega)
    have hp1 := pow_small (show i ≤ 10 by omega)
    have hp2 := pow_small (show j ≤ 10 by omega)
    have ih := poGood_l1 l i m R hl hi hm ok hR d (j + 1) (by omega)
    refine Ev.step (fun _ => spec_poGood.l1.eq_2 ..) (ev_pos (by omega) (ev_pos (by omega) ?_))
    rw [wrap_succ (by omega), List.range'_succ, List.all_cons, rd_getD, ha, bits_andNot (lt63 ha2 (by omega)) (lt63 hm (by omega)), Int.toNat_natCast]
    refine ev_ite (fun e => ?_) (fun e => ?_)
    · rw [bit_mod' (by omega)] at e
      rw [e, Bool.not_true, Bool.false_or]
      refine ev_pos (by omega) (ev_ite (fun e => ?_) (fun e => ?_))
      · have e' : sd a m = 0 := by omega
        rw [e', beq_self_eq_true, Bool.true_and]; exact ih
      · have e' : (sd a m == 0) = false := by rw [beq_eq_false_iff_ne]; omega
        rw [e', Bool.false_and, Bool.false_and]; exact Ev.now _
    · rw [bit_mod' (by omega)] at e
      rw [Bool.eq_false_iff.mpr e, Bool.not_false, Bool.true_or, Bool.true_and]; exact ih
theorem poGood_l0 (l : List Int) (hl : l.length ≤ 10) : ∀ (d i : Nat), i + d = l.length → (∀ j, j < i → ∃ a : Nat, l.getD j 0 = (a : Int) ∧ a < 2 ^ j) →
    Ev (fun k => spec_poGood.l0 k l (l.length : Int) (i : Int) l) ((List.range' i d).all (okAt l))
  | 0, i, h, ok => by
    refine Ev.step (fun _ => spec_poGood.l0.eq_2 ..) (ev_neg (by omega) ?_)
    exact Ev.now _
  | d + 1, i, h, ok => by
    have hp1 := pow_small (show i ≤ 10 by omega)
    have hpos := Nat.two_pow_pos i
    refine Ev.step (fun _ => spec_poGood.l0.eq_2 ..) (ev_pos (by omega) (ev_pos (by omega) (ev_pos (by omega) (ev_call (l1In_eq _ _ _) ?_))))
    rw [rd_getD, shl_one' (by omega), List.range'_succ, List.all_cons, okAt_def l i]
    refine ev_ite (fun e => ?_) (fun e => ?_)
    · have b := inB_iff.mp e
      obtain ⟨m, hm⟩ : ∃ m : Nat, l.getD i 0 = (m : Int) := ⟨(l.getD i 0).toNat, by omega⟩
      rw [e, Bool.true_and, hm]
      have hm2 : m < 2 ^ i := by omega
      have hnx := poGood_l0 l hl d (i + 1) (by omega) (fun j hj => by
        by_cases hji : j = i
        · subst hji; exact ⟨m, hm, hm2⟩
        · exact ok j (by omega))
      have := poGood_l1 l i m _ hl (by omega) hm2 ok hnx i 0 (by omega)
      simpa [List.range_eq_range'] using this
    · rw [Bool.eq_false_iff.mpr e, Bool.false_and, Bool.false_and]
      exact Ev.now _
theorem poGood_ev (l : List Int) : Ev (fun k => spec_poGood.f k l) (goodB l) := by
  refine ev_call (l1In_eq _ _ _) ?_
  unfold goodB
  refine ev_ite (fun e => ?_) (fun e => ?_)
  · have b := inB_iff.mp e
    rw [e, Bool.true_and]
    exact poGood_l0 l (by omega) l.length 0 (by omega) (fun j hj => by omega)
  · rw [Bool.eq_false_iff.mpr e, Bool.false_and]; exact Ev.now _
end Go.Proofs.Ytpdgiinedbdamaa.M
end
section
namespace Go.Proofs.Ytpdgiinedbdamaa.M
open Go.RowKit Go.Proofs.YtpdgiinedbdamaaW.PrintWords Go.Proofs.YtpdgiinedbdamaaW.PrintLast Go.Proofs.YtpdgiinedbdamaaW.PrintMore Go.Proofs.Ytpdgiinedbdamaa.L
set_option linter.unusedVariables false
def setB (l : List Int) (s : Int) : Bool := goodB l && inB s 0 ((2 ^ l.length - 1 : Nat) : Int)
def idB (l : List Int) (s : Int) : Bool := setB l s && idealB (l.map Int.toNat) s.toNat
theorem setB_of {l : List Int} {s : Int} (h : setB l s = true) : ∃ (p : List Nat) (t : Nat), l = toI p ∧ s = (t : Int) ∧ Good p ∧ t < 2 ^ p.length := by
  simp only [setB, Bool.and_eq_true, inB_iff] at h
  obtain ⟨p, rfl, g⟩ := goodB_of h.1
  have := Nat.two_pow_pos p.length
  rw [toI_len] at h
  exact ⟨p, s.toNat, rfl, by omega, g, by omega⟩
theorem toNat_toI (p : List Nat) : (toI p).map Int.toNat = p := by
  simp only [toI, List.map_map]
  exact (List.map_congr_left (fun x _ => by simp)).trans (List.map_id p)
theorem idB_of {l : List Int} {s : Int} (h : idB l s = true) : ∃ (p : List Nat) (t : Nat), l = toI p ∧ s = (t : Int) ∧ Good p ∧ IsId p t := by
  simp only [idB, Bool.and_eq_true] at h
  obtain ⟨p, t, rfl, rfl, g, ht⟩ := setB_of h.1
  have h2 := h.2
  rw [toNat_toI, Int.toNat_natCast] at h2
  exact ⟨p, t, rfl, rfl, g, (idealB_iff ht).mp h2⟩
theorem setB_mk {p : List Nat} {t : Nat} (g : Good p) (ht : t < 2 ^ p.length) : setB (toI p) (t : Int) = true := by
  simp only [setB, Bool.and_eq_true, inB_iff, toI_len]
  exact ⟨goodB_toI g, by omega, by omega⟩
theorem idB_mk {p : List Nat} {t : Nat} (g : Good p) (ht : IsId p t) : idB (toI p) (t : Int) = true := by
  simp only [idB, Bool.and_eq_true]
  refine ⟨setB_mk g ht.1, ?_⟩
  rw [toNat_toI, Int.toNat_natCast]; exact (idealB_iff ht.1).mpr ht
theorem Good.len63 {p : List Nat} (g : Good p) {s : Nat} (h : s < 2 ^ p.length) : s < 2 ^ 63 := M.lt63 h (by have := g.le; omega)
theorem isSet_ev (l : List Int) (s : Int) : Ev (fun k => impl_isSet.f k l s) (setB l s) := by
  refine Ev.bind (isPoset_ev l) ?_
  unfold setB
  refine ev_ite (fun e => ?_) (fun e => ?_)
  · obtain ⟨p, rfl, g⟩ := goodB_of e
    rw [e, Bool.true_and, toI_len]
    exact ev_call (all_eq g.le) (ev_call (within_eq _ _ _) (Ev.now _))
  · rw [Bool.eq_false_iff.mpr e, Bool.false_and]; exact Ev.now _
theorem items_get {m q : Nat} (hq : q < (items m).length) : (items m)[q] < 10 ∧ m.testBit (items m)[q] = true := mem_items.mp (List.getElem_mem hq)
theorem rd_items {m q : Nat} (hq : q < (items m).length) : rd (toI (items m)) (q : Int) = (((items m)[q] : Nat) : Int) := by rw [rd_toI]; simp [List.getD_eq_getElem?_getD, hq]
theorem close_l0 {p : List Nat} (g : Good p) (s : Nat) (hs : s < 2 ^ p.length) : ∀ (d q a : Nat), q + d = (items s).length → a < 2 ^ p.length →
    Ev (fun k => impl_Poset_close.l0 k (a : Int) (toI (items s)) ((toI (items s)).length : Int) (q : Int) (toI p)) (((((items s).drop q).foldl (fun o e => o ||| less p e) a : Nat)) : Int)
  | 0, q, a, h, ha => by
    refine Ev.step (fun _ => impl_Poset_close.l0.eq_2 ..) (ev_neg (by rw [toI_len]; omega) ?_)
    rw [List.drop_of_length_le (by omega)]; exact Ev.now _
  | d + 1, q, a, h, ha => by
    have hq : q < (items s).length := by omega
    have hm := items_get hq
    have hb := bit_lt hs hm.2
    have hl := items_len s
    refine Ev.step (fun _ => impl_Poset_close.l0.eq_2 ..) ?_
    rw [rd_items hq, toI_len, toI_len]
    refine ev_pos (by omega) (ev_pos (by omega) (ev_pos (by omega) (ev_pos (by omega) (ev_pos (by omega) ?_))))
    rw [rd_less, bits_or (g.len63 ha) (g.lt63 _), wrap_succ (by omega), List.drop_eq_getElem_cons hq, List.foldl_cons, ← toI_len]
    exact close_l0 g s hs d (q + 1) _ (by omega) (Nat.or_lt_two_pow ha (g.lt10 _))
theorem close_ev {p : List Nat} (g : Good p) {s : Nat} (hs : s < 2 ^ p.length) : Ev (fun k => impl_Poset_close.f k (toI p) (s : Int)) ((close p s : Nat) : Int) := by
  refine Ev.bind (items_ev (g.len63 hs)) ?_
  have h := close_l0 g s hs (items s).length 0 s (by omega) hs
  rw [List.drop_zero, foldl_items_n _ _ hs g.le] at h
  exact h
theorem isIdeal_ev (l : List Int) (s : Int) : Ev (fun k => impl_isIdeal.f k l s) (idB l s) := by
  refine Ev.bind (isSet_ev l s) ?_
  unfold idB
  refine ev_ite (fun e => ?_) (fun e => ?_)
  · obtain ⟨p, t, rfl, rfl, g, ht⟩ := setB_of e
    rw [e, Bool.true_and, toNat_toI, Int.toNat_natCast, ← close_beq ht]
    refine Ev.bind (close_ev g ht) ?_
    have : (((close p t : Nat) : Int) == (t : Int)) = (close p t == t) := by
      rw [Bool.eq_iff_iff, beq_iff_eq, beq_iff_eq]; omega
    rw [this]; exact Ev.now _
  · rw [Bool.eq_false_iff.mpr e, Bool.false_and]; exact Ev.now _
theorem poSet_eq (p : List Nat) (s : Int) (h : p.length ≤ 10) : spec_poSet.f (toI p) s = some (inB s 0 ((2 ^ p.length - 1 : Nat) : Int)) := by
  unfold spec_poSet.f; rw [toI_len, shl_one' (by omega), l1In_eq]; rfl
theorem poIdeal_l0 {p : List Nat} (g : Good p) (s : Nat) (hs : s < 2 ^ p.length) : ∀ (d i : Nat), i + d = p.length →
    Ev (fun k => spec_poIdeal.l0 k (s : Int) (toI p) ((toI p).length : Int) (i : Int)) ((List.range' i d).all fun e => !(s.testBit e) || sd (less p e) s == 0)
  | 0, i, h => by
    refine Ev.step (fun _ => spec_poIdeal.l0.eq_2 ..) (ev_neg (by rw [toI_len]; omega) (Ev.now _))
  | d + 1, i, h => by
    have := g.le
    have ih := poIdeal_l0 g s hs d (i + 1) (by omega)
    refine Ev.step (fun _ => spec_poIdeal.l0.eq_2 ..) ?_
    refine ev_pos (by rw [toI_len]; omega) (ev_pos (by omega) (ev_pos (by rw [toI_len]; omega) (ev_call (poIn_eq (by omega)) ?_)))
    rw [rd_less, bits_andNot (g.lt63 _) (g.len63 hs), wrap_succ (by omega), List.range'_succ, List.all_cons]
    refine ev_ite (fun e => ?_) (fun e => ?_)
    · rw [e, Bool.not_true, Bool.false_or]
      refine ev_ite (fun e => ?_) (fun e => ?_)
      · have e' : sd (less p i) s = 0 := by omega
        rw [e', beq_self_eq_true, Bool.true_and]; exact ih
      · have e' : (sd (less p i) s == 0) = false := by rw [beq_eq_false_iff_ne]; omega
        rw [e', Bool.false_and]; exact Ev.now _
    · rw [Bool.eq_false_iff.mpr e, Bool.not_false, Bool.true_or, Bool.true_and]; exact ih
theorem poIdeal_ev {p : List Nat} (g : Good p) {s : Nat} (hs : s < 2 ^ p.length) : Ev (fun k => spec_poIdeal.f k (toI p) (s : Int)) (idealB p s) := poIdeal_l0 g s hs p.length 0 (by omega)
end Go.Proofs.Ytpdgiinedbdamaa.M
end
section
namespace Go.Proofs.Ytpdgiinedbdamaa.M
open Go.RowKit Go.Proofs.YtpdgiinedbdamaaW.PrintWords Go.Proofs.YtpdgiinedbdamaaW.PrintLast Go.Proofs.YtpdgiinedbdamaaW.PrintMore Go.Proofs.Ytpdgiinedbdamaa.L
set_option linter.unusedVariables false
def stepH (p : List Nat) (a : List Nat) (i : Nat) : Nat := foldBits i (less p i) (fun m e => max m (a.getD e 0 + 1)) 0
def hs (p : List Nat) : Nat → List Nat
  | 0 => []
  | i + 1 => hs p i ++ [stepH p (hs p i) i]
theorem hs_len (p : List Nat) : ∀ i, (hs p i).length = i
  | 0 => rfl
  | i + 1 => by simp [hs, hs_len p i]
def ht (p : List Nat) : List Nat := hs p p.length
theorem ht_len (p : List Nat) : (ht p).length = p.length := hs_len p _
def hh (p : List Nat) (i : Nat) : Nat := (ht p).getD i 0
theorem hs_le (p : List Nat) : ∀ i e, (hs p i).getD e 0 ≤ e
  | 0, e => by simp [hs]
  | i + 1, e => by
    rw [hs]
    by_cases h : e < i
    · have := hs_le p i e
      simpa [List.getD_eq_getElem?_getD, List.getElem?_append_left (by rw [hs_len]; exact h : e < (hs p i).length)] using this
    · by_cases h2 : e = i
      · subst h2
        have : (hs p e ++ [stepH p (hs p e) e]).getD e 0 = stepH p (hs p e) e := by
          rw [List.getD_eq_getElem?_getD, List.getElem?_append_right (by rw [hs_len]; exact Nat.le_refl _)]
          simp [hs_len]
        rw [this]
        refine foldBits_inv _ _ _ _ (· ≤ e) (Nat.zero_le _) (fun a x ha hx _ => ?_)
        have := hs_le p e x
        omega
      · rw [List.getD_eq_getElem?_getD, List.getElem?_eq_none (by simp [hs_len]; omega)]
        exact Nat.zero_le _
theorem hs_get (p : List Nat) {i e : Nat} (h : e < i) : (hs p i).getD e 0 = (hs p (e + 1)).getD e 0 := by
  induction i with
  | zero => omega
  | succ i ih =>
    by_cases h2 : e = i
    · subst h2; rfl
    · rw [← ih (by omega), hs]
      simp [List.getD_eq_getElem?_getD, List.getElem?_append_left (by rw [hs_len]; omega : e < (hs p i).length)]
theorem hh_le (p : List Nat) (i : Nat) : hh p i ≤ i := hs_le p _ i
theorem hh_step (p : List Nat) {i : Nat} (h : i < p.length) : hh p i = stepH p (hs p i) i := by
  unfold hh ht; rw [hs_get p h, hs]
  rw [List.getD_eq_getElem?_getD, List.getElem?_append_right (by rw [hs_len]; exact Nat.le_refl _)]
  simp [hs_len]
theorem foldMax_ge (a : List Nat) (s : Nat) {e : Nat} : ∀ n, e < n → s.testBit e = true → a.getD e 0 + 1 ≤ foldBits n s (fun m e => max m (a.getD e 0 + 1)) 0
  | 0, h, _ => by omega
  | n + 1, h, hb => by
    rw [foldBits_succ]
    by_cases h2 : e = n
    · subst h2; rw [if_pos hb]; exact Nat.le_max_right _ _
    · have := foldMax_ge a s n (by omega) hb
      split
      · exact Nat.le_trans this (Nat.le_max_left _ _)
      · exact this
theorem hh_lt {p : List Nat} (g : Good p) {i j : Nat} (h : (less p i).testBit j = true) : hh p j < hh p i := by
  have b := g.bit h
  rw [hh_step p b.2]
  have := foldMax_ge (hs p i) (less p i) i b.1 h
  have e : (hs p i).getD j 0 = hh p j := by unfold hh ht; rw [hs_get p b.1, hs_get p (by omega : j < p.length)]
  rw [e] at this
  exact this
theorem getD_app_l {a b : List Nat} {e : Nat} (h : e < a.length) : (a ++ b).getD e 0 = a.getD e 0 := by
  simp [List.getD_eq_getElem?_getD, List.getElem?_append_left h]
theorem getD_app_at {a b : List Nat} {m : Nat} : (a ++ m :: b).getD a.length 0 = m := by
  simp [List.getD_eq_getElem?_getD]
theorem set_app_at {a b : List Nat} {m x : Nat} : (a ++ m :: b).set a.length x = a ++ x :: b := by simp
theorem mx_nat (a b : Nat) : mx (a : Int) (b : Int) = ((max a b : Nat) : Int) := by unfold mx; split <;> omega
theorem implHeights_l1' {p : List Nat} (g : Good p) (i : Nat) (hi : i < p.length) (a z : List Nat) (ha : a.length = i) (hz : i + 1 + z.length = p.length) (hb : ∀ e, a.getD e 0 ≤ e) (r : List Int) : ∀ (d q m : Nat), q + d = (items (less p i)).length →
    m ≤ i → Ev (fun k => impl_Poset_heights.l0 k (toI (a ++ ((items (less p i)).drop q).foldl (fun m e => max m (a.getD e 0 + 1)) m :: z)) (toI p) ((toI p).length : Int) ((i + 1 : Nat) : Int)) r →
    Ev (fun k => impl_Poset_heights.l1 k (toI (a ++ m :: z)) (i : Int) (toI p) ((toI p).length : Int) (i : Int) (toI (items (less p i))) ((toI (items (less p i))).length : Int) (q : Int)) r
  | 0, q, m, h, hm, c => by
    have := g.le
    refine Ev.step (fun _ => impl_Poset_heights.l1.eq_2 ..) (ev_neg (by rw [toI_len]; omega) ?_)
    rw [wrap_succ (by omega)]
    rw [List.drop_of_length_le (by omega)] at c; exact c
  | d + 1, q, m, h, hm, c => by
    have gl := g.le
    have hq : q < (items (less p i)).length := by omega
    have hmm := items_get hq
    have hbit := g.bit hmm.2
    have hl := items_len (less p i)
    have hx := hb (items (less p i))[q]
    refine Ev.step (fun _ => impl_Poset_heights.l1.eq_2 ..) ?_
    rw [rd_items hq]
    refine ev_pos (by rw [toI_len]; omega) (ev_pos (by omega) (ev_pos (by rw [toI_len]; omega) (ev_pos (by omega) (ev_pos (by rw [toI_len]; simp; omega) (ev_pos (by omega) (ev_pos (by rw [toI_len]; simp; omega) ?_))))))
    have e1 : rd (toI (a ++ m :: z)) (i : Int) = (m : Int) := by rw [rd_toI, ← ha, getD_app_at]
    have e2 : rd (toI (a ++ m :: z)) (((items (less p i))[q] : Nat) : Int) = ((a.getD (items (less p i))[q] 0 : Nat) : Int) := by rw [rd_toI, getD_app_l (by omega)]
    rw [e1, e2, wrap_succ (by omega), wrap_succ (by omega), mx_nat, Int.toNat_natCast, toI_set]
    have e3 : ∀ x, (a ++ m :: z).set i x = a ++ x :: z := fun x => by rw [← ha]; exact set_app_at
    rw [e3]
    refine implHeights_l1' g i hi a z ha hz hb r d (q + 1) _ (by omega) (by omega) ?_
    rw [List.drop_eq_getElem_cons hq, List.foldl_cons] at c; exact c
theorem hs_state {p : List Nat} {i : Nat} (h : i < p.length) : hs p i ++ List.replicate (p.length - i) 0 = hs p i ++ 0 :: List.replicate (p.length - (i + 1)) 0 := by
  rw [show p.length - i = (p.length - (i + 1)) + 1 by omega, List.replicate_succ]
theorem hs_next {p : List Nat} {i : Nat} : hs p i ++ stepH p (hs p i) i :: List.replicate (p.length - (i + 1)) 0 = hs p (i + 1) ++ List.replicate (p.length - (i + 1)) 0 := by
  rw [hs, List.append_assoc]; rfl
theorem implHeights_l0 {p : List Nat} (g : Good p) : ∀ (d i : Nat), i + d = p.length → Ev (fun k => impl_Poset_heights.l0 k (toI (hs p i ++ List.replicate (p.length - i) 0)) (toI p) ((toI p).length : Int) (i : Int)) (toI (ht p))
  | 0, i, h => by
    refine Ev.step (fun _ => impl_Poset_heights.l0.eq_2 ..) (ev_neg (by rw [toI_len]; omega) ?_)
    obtain rfl : i = p.length := by omega
    rw [Nat.sub_self, List.replicate_zero, List.append_nil]; exact Ev.now _
  | d + 1, i, h => by
    have gl := g.le
    refine Ev.step (fun _ => impl_Poset_heights.l0.eq_2 ..) (ev_pos (by rw [toI_len]; omega) (ev_pos (by omega) (ev_pos (by rw [toI_len]; omega) ?_)))
    rw [rd_less]
    refine Ev.bind (items_ev (g.lt63 _)) ?_
    rw [hs_state (by omega)]
    refine implHeights_l1' g i (by omega) _ _ (hs_len p i) (by rw [List.length_replicate]; omega) (hs_le p i) _ _ 0 0 (Nat.zero_add _) (Nat.zero_le _) ?_
    rw [List.drop_zero, foldl_items_n _ _ (g.lt i (by omega)) (by omega)]
    have := implHeights_l0 g d (i + 1) (by omega)
    rw [← hs_next] at this; exact this
theorem implHeights_ev {p : List Nat} (g : Good p) : Ev (fun k => impl_Poset_heights.f k (toI p)) (toI (ht p)) := by
  have gl := g.le
  refine ev_call (n_eq _) (ev_pos (by omega) (ev_pos (by rw [toI_len]; omega) ?_))
  rw [toI_len, Int.toNat_natCast, show (0 : Int) = ((0 : Nat) : Int) from rfl, toI_rep]
  have := implHeights_l0 g p.length 0 (by omega)
  simpa [hs] using this
theorem l1Most_eq (a b : Nat) : spec_l1Most.f (a : Int) (b : Int) = some ((max a b : Nat) : Int) := by
  unfold spec_l1Most.f; split <;> (refine congrArg some ?_; omega)
theorem specHeights_l1 {p : List Nat} (g : Good p) (i : Nat) (hi : i < p.length) (a z : List Nat) (ha : a.length = i) (hz : i + 1 + z.length = p.length) (hb : ∀ e, a.getD e 0 ≤ e) (r : List Int) : ∀ (d e m : Nat), e + d = i →
    m ≤ i → Ev (fun k => spec_poHeights.l0 k (toI (a ++ (List.range' e d).foldl (fun m e => if (less p i).testBit e = true then max m (a.getD e 0 + 1) else m) m :: z)) (toI p) ((toI p).length : Int) ((i + 1 : Nat) : Int)) r →
    Ev (fun k => spec_poHeights.l1 k (toI (a ++ m :: z)) (i : Int) ((less p i : Nat) : Int) (e : Int) (toI p) ((toI p).length : Int) (i : Int)) r
  | 0, e, m, h, hm, c => by
    have := g.le
    refine Ev.step (fun _ => spec_poHeights.l1.eq_2 ..) (ev_neg (by omega) ?_)
    rw [wrap_succ (by omega)]
    exact c
  | d + 1, e, m, h, hm, c => by
    have gl := g.le
    have hx := hb e
    have e1 : rd (toI (a ++ m :: z)) (i : Int) = (m : Int) := by rw [rd_toI, ← ha, getD_app_at]
    have e2 : rd (toI (a ++ m :: z)) (e : Int) = ((a.getD e 0 : Nat) : Int) := by rw [rd_toI, getD_app_l (by omega)]
    rw [List.range'_succ, List.foldl_cons] at c
    refine Ev.step (fun _ => spec_poHeights.l1.eq_2 ..) (ev_pos (by omega) (ev_call (poIn_eq (by omega)) (ev_ite (fun ht => ?_) (fun ht => ?_))))
    · refine ev_pos (by omega) (ev_pos (by rw [toI_len]; simp; omega) (ev_pos (by omega) (ev_pos (by rw [toI_len]; simp; omega) ?_)))
      rw [e1, e2, wrap_succ (by omega)]
      refine ev_call (l1Most_eq _ _) ?_
      rw [Int.toNat_natCast, toI_set, wrap_succ (by omega)]
      have e3 : (a ++ m :: z).set i (max m (a.getD e 0 + 1)) = a ++ max m (a.getD e 0 + 1) :: z := by rw [← ha]; exact set_app_at
      rw [e3]
      rw [if_pos ht] at c
      exact specHeights_l1 g i hi a z ha hz hb r d (e + 1) _ (by omega) (by omega) c
    · rw [wrap_succ (by omega)]
      rw [if_neg ht] at c
      exact specHeights_l1 g i hi a z ha hz hb r d (e + 1) _ (by omega) (by omega) c
theorem specHeights_l0 {p : List Nat} (g : Good p) : ∀ (d i : Nat), i + d = p.length → Ev (fun k => spec_poHeights.l0 k (toI (hs p i ++ List.replicate (p.length - i) 0)) (toI p) ((toI p).length : Int) (i : Int)) (toI (ht p))
  | 0, i, h => by
    refine Ev.step (fun _ => spec_poHeights.l0.eq_2 ..) (ev_neg (by rw [toI_len]; omega) ?_)
    obtain rfl : i = p.length := by omega
    rw [Nat.sub_self, List.replicate_zero, List.append_nil]; exact Ev.now _
  | d + 1, i, h => by
    have gl := g.le
    refine Ev.step (fun _ => spec_poHeights.l0.eq_2 ..) (ev_pos (by rw [toI_len]; omega) (ev_pos (by omega) (ev_pos (by rw [toI_len]; omega) ?_)))
    rw [rd_less, hs_state (by omega)]
    refine specHeights_l1 g i (by omega) _ _ (hs_len p i) (by rw [List.length_replicate]; omega) (hs_le p i) _ i 0 0 (by omega) (Nat.zero_le _) ?_
    have := specHeights_l0 g d (i + 1) (by omega)
    rw [← hs_next] at this
    rw [← List.range_eq_range']; exact this
theorem specHeights_ev {p : List Nat} (g : Good p) : Ev (fun k => spec_poHeights.f k (toI p)) (toI (ht p)) := by
  have gl := g.le
  refine ev_pos (by omega) (ev_pos (by rw [toI_len]; omega) ?_)
  rw [toI_len, Int.toNat_natCast, show (0 : Int) = ((0 : Nat) : Int) from rfl, toI_rep]
  have := specHeights_l0 g p.length 0 (by omega)
  simpa [hs] using this
def covB (p : List Nat) (j i : Nat) : Bool := (less p i).testBit j && (List.range' (j + 1) (i - (j + 1))).all fun k => !((less p i).testBit k && (less p k).testBit j)
def pairs (p : List Nat) : List (List Int) := (List.range p.length).flatMap fun j => ((List.range p.length).filter fun i => covB p j i).map fun i => [((j : Nat) : Int), ((i : Nat) : Int)]
theorem foldSd_bit (p : List Nat) (s a i : Nat) : ∀ n, (foldBits n s (fun o e => sd o (less p e)) a).testBit i = true ↔ (a.testBit i = true ∧ ∀ e, e < n → s.testBit e = true → (less p e).testBit i = false)
  | 0 => by simp [foldBits]
  | n + 1 => by
    rw [foldBits_succ]
    have ih := foldSd_bit p s a i n
    split
    · rename_i hs
      rw [sd_bit, Bool.and_eq_true, ih, Bool.not_eq_true']
      constructor
      · rintro ⟨⟨h1, h2⟩, h3⟩
        refine ⟨h1, fun e he hb => ?_⟩
        by_cases c : e = n
        · subst c; exact h3
        · exact h2 e (by omega) hb
      · rintro ⟨h1, h2⟩
        exact ⟨⟨h1, fun e he hb => h2 e (by omega) hb⟩, h2 n (by omega) hs⟩
    · rename_i hs
      rw [ih]
      constructor
      · rintro ⟨h1, h2⟩
        refine ⟨h1, fun e he hb => ?_⟩
        by_cases c : e = n
        · subst c; exact absurd hb hs
        · exact h2 e (by omega) hb
      · rintro ⟨h1, h2⟩
        exact ⟨h1, fun e he hb => h2 e (by omega) hb⟩
def cov (p : List Nat) (i : Nat) : Nat := foldBits i (less p i) (fun o e => sd o (less p e)) (less p i)
theorem cov_bit {p : List Nat} (g : Good p) (i j : Nat) : (cov p i).testBit j = covB p j i := by
  unfold cov covB
  rw [Bool.eq_iff_iff, foldSd_bit, Bool.and_eq_true, List.all_eq_true]
  constructor
  · rintro ⟨h1, h2⟩
    refine ⟨h1, fun k hk => ?_⟩
    rw [List.mem_range'_1] at hk
    cases hb : (less p i).testBit k
    · rfl
    · rw [h2 k (by omega) hb]; rfl
  · rintro ⟨h1, h2⟩
    refine ⟨h1, fun k hk hb => ?_⟩
    cases hc : (less p k).testBit j
    · rfl
    · have b := g.bit hc
      have := h2 k (by rw [List.mem_range'_1]; omega)
      rw [hb, hc] at this; cases this
theorem covered_l0 {p : List Nat} (g : Good p) (s : Nat) (hs : s < 2 ^ p.length) : ∀ (d q a : Nat), q + d = (items s).length → a < 2 ^ p.length →
    Ev (fun k => impl_Poset_covered.l0 k (a : Int) (toI (items s)) ((toI (items s)).length : Int) (q : Int) (toI p)) (((((items s).drop q).foldl (fun o e => sd o (less p e)) a : Nat)) : Int)
  | 0, q, a, h, ha => by
    refine Ev.step (fun _ => impl_Poset_covered.l0.eq_2 ..) (ev_neg (by rw [toI_len]; omega) ?_)
    rw [List.drop_of_length_le (by omega)]; exact Ev.now _
  | d + 1, q, a, h, ha => by
    have hq : q < (items s).length := by omega
    have hm := items_get hq
    have hb := bit_lt hs hm.2
    have hl := items_len s
    refine Ev.step (fun _ => impl_Poset_covered.l0.eq_2 ..) ?_
    rw [rd_items hq, toI_len, toI_len]
    refine ev_pos (by omega) (ev_pos (by omega) (ev_pos (by omega) (ev_pos (by omega) (ev_pos (by omega) ?_))))
    rw [rd_less, bits_andNot (g.len63 ha) (g.lt63 _), wrap_succ (by omega), List.drop_eq_getElem_cons hq, List.foldl_cons, ← toI_len]
    exact covered_l0 g s hs d (q + 1) _ (by omega) (sd_lt _ ha)
theorem covered_ev {p : List Nat} (g : Good p) {i : Nat} (hi : i < p.length) : Ev (fun k => impl_Poset_covered.f k (toI p) (i : Int)) ((cov p i : Nat) : Int) := by
  refine ev_pos (by omega) (ev_pos (by rw [toI_len]; omega) ?_)
  rw [rd_less]
  refine Ev.bind (items_ev (g.lt63 i)) ?_
  have h := covered_l0 g (less p i) (g.lt10 i) _ 0 (less p i) (Nat.zero_add _) (g.lt10 i)
  rw [List.drop_zero, foldl_items_n _ _ (g.lt i hi) (by have := g.le; omega)] at h
  exact h
def pairsAt (p : List Nat) (j i d : Nat) : List (List Int) := ((List.range' i d).filter fun i => covB p j i).map fun i => [((j : Nat) : Int), ((i : Nat) : Int)]
def pairsTo (p : List Nat) (j d : Nat) : List (List Int) := (List.range' j d).flatMap fun j => pairsAt p j 0 p.length
theorem cov_lt {p : List Nat} (g : Good p) (i : Nat) : cov p i < 2 ^ 63 := g.len63 (foldBits_inv _ _ _ _ (· < 2 ^ p.length) (g.lt10 i) (fun a e ha _ _ => sd_lt _ ha))
theorem implCovers_l1 {p : List Nat} (g : Good p) (j : Nat) (hj : j < p.length) (r : List (List Int)) : ∀ (d i : Nat) (acc : List (List Int)), i + d = p.length → acc.length + d ≤ 1000 →
    Ev (fun k => impl_Poset_covers.l0 k (acc ++ pairsAt p j i d) (p.length : Int) ((j + 1 : Nat) : Int) (toI p)) r →
    Ev (fun k => impl_Poset_covers.l1 k acc (j : Int) (p.length : Int) (j : Int) (p.length : Int) (i : Int) (toI p)) r
  | 0, i, acc, h, ha, c => by
    have gl := g.le
    refine Ev.step (fun _ => impl_Poset_covers.l1.eq_2 ..) (ev_neg (by omega) ?_)
    rw [wrap_succ (by omega)]
    simpa [pairsAt] using c
  | d + 1, i, acc, h, ha, c => by
    have gl := g.le
    refine Ev.step (fun _ => impl_Poset_covers.l1.eq_2 ..) (ev_pos (by omega) (Ev.bind (covered_ev g (by omega)) (ev_call (has_eq (cov_lt g i) (by omega)) ?_)))
    rw [cov_bit g, wrap_succ (by omega)]
    refine ev_ite (fun e => ?_) (fun e => ?_)
    · refine ev_pos (by omega) (implCovers_l1 g j hj r d (i + 1) _ (by omega) (by simp; omega) ?_)
      rw [List.append_assoc]
      have : pairsAt p j i (d + 1) = [[(j : Int), (i : Int)]] ++ pairsAt p j (i + 1) d := by simp [pairsAt, List.range'_succ, e]
      rw [this] at c; exact c
    · refine implCovers_l1 g j hj r d (i + 1) _ (by omega) (by omega) ?_
      have : pairsAt p j i (d + 1) = pairsAt p j (i + 1) d := by simp [pairsAt, List.range'_succ, e]
      rw [this] at c; exact c
theorem pairsAt_len (p : List Nat) (j i d : Nat) : (pairsAt p j i d).length ≤ d := by
  unfold pairsAt
  rw [List.length_map]
  exact Nat.le_trans (List.length_filter_le _ _) (by simp)
theorem implCovers_l0 {p : List Nat} (g : Good p) : ∀ (d j : Nat) (acc : List (List Int)), j + d = p.length → acc.length + 10 * d ≤ 100 →
    Ev (fun k => impl_Poset_covers.l0 k acc (p.length : Int) (j : Int) (toI p)) (acc ++ pairsTo p j d)
  | 0, j, acc, h, ha => by
    refine Ev.step (fun _ => impl_Poset_covers.l0.eq_2 ..) (ev_neg (by omega) ?_)
    simpa [pairsTo] using Ev.now acc
  | d + 1, j, acc, h, ha => by
    have gl := g.le
    have := pairsAt_len p j 0 p.length
    refine Ev.step (fun _ => impl_Poset_covers.l0.eq_2 ..) (ev_pos (by omega) (ev_call (n_eq _) ?_))
    rw [toI_len]
    refine implCovers_l1 g j (by omega) _ p.length 0 acc (by omega) (by omega) ?_
    have ih := implCovers_l0 g d (j + 1) (acc ++ pairsAt p j 0 p.length) (by omega) (by simp; omega)
    rw [List.append_assoc] at ih
    have e : pairsTo p j (d + 1) = pairsAt p j 0 p.length ++ pairsTo p (j + 1) d := by simp [pairsTo, List.range'_succ]
    rw [e]; exact ih
theorem pairsTo_eq (p : List Nat) : pairsTo p 0 p.length = pairs p := by unfold pairsTo pairs pairsAt; rw [← List.range_eq_range']
theorem implCovers_ev {p : List Nat} (g : Good p) : Ev (fun k => impl_Poset_covers.f k (toI p)) (pairs p) := by
  have gl := g.le
  refine ev_call (n_eq _) ?_
  rw [toI_len]
  have := implCovers_l0 g p.length 0 [] (by omega) (by simp; omega)
  rw [List.nil_append, pairsTo_eq] at this; exact this
theorem specCov_l0 {p : List Nat} (g : Good p) (j i : Nat) (hj : j < p.length) (hi : i < p.length) : ∀ (d k : Nat), k + d = i → Ev (fun n => spec_poCovers.l0 n (j : Int) (i : Int) (k : Int) (toI p)) ((List.range' k d).all fun k => !((less p i).testBit k && (less p k).testBit j))
  | 0, k, h => by
    refine Ev.step (fun _ => spec_poCovers.l0.eq_2 ..) (ev_neg (by omega) ?_)
    simpa using Ev.now true
  | d + 1, k, h => by
    have gl := g.le
    have ih := specCov_l0 g j i hj hi d (k + 1) (by omega)
    refine Ev.step (fun _ => spec_poCovers.l0.eq_2 ..) (ev_pos (by omega) (ev_pos (by omega) (ev_pos (by rw [toI_len]; omega) ?_)))
    rw [rd_less, wrap_succ (by omega), List.range'_succ, List.all_cons]
    refine ev_call (poIn_eq (by omega)) (ev_ite (fun e => ?_) (fun e => ?_))
    · rw [e, Bool.true_and]
      refine ev_pos (by omega) (ev_pos (by rw [toI_len]; omega) ?_)
      rw [rd_less]
      refine ev_call (poIn_eq (by omega)) (ev_ite (fun e2 => ?_) (fun e2 => ?_))
      · rw [e2]; exact Ev.now _
      · rw [Bool.eq_false_iff.mpr e2, Bool.not_false, Bool.true_and]; exact ih
    · rw [Bool.eq_false_iff.mpr e, Bool.false_and, Bool.not_false, Bool.true_and]; exact ih
theorem specCov_ev {p : List Nat} (g : Good p) {j i : Nat} (hj : j < p.length) (hi : i < p.length) : Ev (fun k => spec_poCovers.f k (toI p) (j : Int) (i : Int)) (covB p j i) := by
  have gl := g.le
  refine ev_pos (by omega) (ev_pos (by rw [toI_len]; omega) ?_)
  rw [rd_less]
  unfold covB
  refine ev_call (poIn_eq (by omega)) (ev_ite (fun e => ?_) (fun e => ?_))
  · rw [e, Bool.true_and, wrap_succ (by omega)]
    have b := g.bit e
    by_cases hji : j + 1 ≤ i
    · exact specCov_l0 g j i hj hi _ (j + 1) (by omega)
    · omega
  · rw [Bool.eq_false_iff.mpr e, Bool.false_and]; exact Ev.now _
theorem specPairs_l1 {p : List Nat} (g : Good p) (j : Nat) (hj : j < p.length) (r : List (List Int)) : ∀ (d i : Nat) (acc : List (List Int)), i + d = p.length → acc.length + d ≤ 1000 →
    Ev (fun k => spec_poPairs.l0 k (acc ++ pairsAt p j i d) (p.length : Int) ((j + 1 : Nat) : Int) (toI p)) r →
    Ev (fun k => spec_poPairs.l1 k acc (j : Int) (p.length : Int) (j : Int) (p.length : Int) (i : Int) (toI p)) r
  | 0, i, acc, h, ha, c => by
    have gl := g.le
    refine Ev.step (fun _ => spec_poPairs.l1.eq_2 ..) (ev_neg (by omega) ?_)
    rw [wrap_succ (by omega)]
    simpa [pairsAt] using c
  | d + 1, i, acc, h, ha, c => by
    have gl := g.le
    refine Ev.step (fun _ => spec_poPairs.l1.eq_2 ..) (ev_pos (by omega) (Ev.bind (specCov_ev g hj (by omega)) ?_))
    rw [wrap_succ (by omega)]
    refine ev_ite (fun e => ?_) (fun e => ?_)
    · refine ev_pos (by omega) (specPairs_l1 g j hj r d (i + 1) _ (by omega) (by simp; omega) ?_)
      rw [List.append_assoc]
      have : pairsAt p j i (d + 1) = [[(j : Int), (i : Int)]] ++ pairsAt p j (i + 1) d := by simp [pairsAt, List.range'_succ, e]
      rw [this] at c; exact c
    · refine specPairs_l1 g j hj r d (i + 1) _ (by omega) (by omega) ?_
      have : pairsAt p j i (d + 1) = pairsAt p j (i + 1) d := by simp [pairsAt, List.range'_succ, e]
      rw [this] at c; exact c
theorem specPairs_l0 {p : List Nat} (g : Good p) : ∀ (d j : Nat) (acc : List (List Int)), j + d = p.length → acc.length + 10 * d ≤ 100 →
    Ev (fun k => spec_poPairs.l0 k acc (p.length : Int) (j : Int) (toI p)) (acc ++ pairsTo p j d)
  | 0, j, acc, h, ha => by
    refine Ev.step (fun _ => spec_poPairs.l0.eq_2 ..) (ev_neg (by omega) ?_)
    simpa [pairsTo] using Ev.now acc
  | d + 1, j, acc, h, ha => by
    have gl := g.le
    have := pairsAt_len p j 0 p.length
    refine Ev.step (fun _ => spec_poPairs.l0.eq_2 ..) (ev_pos (by omega) ?_)
    rw [toI_len]
    refine specPairs_l1 g j (by omega) _ p.length 0 acc (by omega) (by omega) ?_
    have ih := specPairs_l0 g d (j + 1) (acc ++ pairsAt p j 0 p.length) (by omega) (by simp; omega)
    rw [List.append_assoc] at ih
    have e : pairsTo p j (d + 1) = pairsAt p j 0 p.length ++ pairsTo p (j + 1) d := by simp [pairsTo, List.range'_succ]
    rw [e]; exact ih
theorem specPairs_ev {p : List Nat} (g : Good p) : Ev (fun k => spec_poPairs.f k (toI p)) (pairs p) := by
  have gl := g.le
  unfold spec_poPairs.f
  rw [toI_len]
  have := specPairs_l0 g p.length 0 [] (by omega) (by simp; omega)
  rw [List.nil_append, pairsTo_eq] at this; exact this
theorem mem_pairs {p : List Nat} {c : List Int} (h : c ∈ pairs p) : ∃ j i : Nat, c = [((j : Nat) : Int), ((i : Nat) : Int)] ∧ j < p.length ∧ i < p.length ∧ covB p j i = true := by
  unfold pairs at h
  simp only [List.mem_flatMap, List.mem_range, List.mem_map, List.mem_filter] at h
  obtain ⟨j, hj, i, ⟨hi, hc⟩, rfl⟩ := h
  exact ⟨j, i, rfl, hj, hi, hc⟩
theorem pairs_len {p : List Nat} (g : Good p) : (pairs p).length ≤ 100 := by
  have gl := g.le
  have : ∀ (d j : Nat), (pairsTo p j d).length ≤ 10 * d := by
    intro d
    induction d with
    | zero => intro j; simp [pairsTo]
    | succ d ih =>
      intro j
      have e : pairsTo p j (d + 1) = pairsAt p j 0 p.length ++ pairsTo p (j + 1) d := by simp [pairsTo, List.range'_succ]
      rw [e, List.length_append]
      have := pairsAt_len p j 0 p.length
      have := ih (j + 1)
      omega
  rw [← pairsTo_eq]
  have := this p.length 0
  omega
def rankedB (p : List Nat) : Bool := (pairs p).all fun c => rd (toI (ht p)) (rd c 1) == rd (toI (ht p)) (rd c 0) + 1
theorem poRanked_l0 {p : List Nat} (g : Good p) : ∀ (d q : Nat), q + d = (pairs p).length → Ev (fun k => spec_poRanked.l0 k (toI (ht p)) (pairs p) ((pairs p).length : Int) (q : Int)) (((pairs p).drop q).all fun c => rd (toI (ht p)) (rd c 1) == rd (toI (ht p)) (rd c 0) + 1)
  | 0, q, h => by
    refine Ev.step (fun _ => spec_poRanked.l0.eq_2 ..) (ev_neg (by omega) ?_)
    rw [List.drop_of_length_le (by omega)]; exact Ev.now _
  | d + 1, q, h => by
    have gl := g.le
    have hp := pairs_len g
    have hq : q < (pairs p).length := by omega
    have er : rd_L1 (pairs p) (q : Int) = (pairs p)[q] := by simp [rd_L1, List.getD_eq_getElem?_getD, hq]
    obtain ⟨j, i, e, hj, hi, hc⟩ := mem_pairs (List.getElem_mem hq)
    have e0 : rd (pairs p)[q] 0 = (j : Int) := by rw [e]; rfl
    have e1 : rd (pairs p)[q] 1 = (i : Int) := by rw [e]; rfl
    have el : (pairs p)[q].length = 2 := by rw [e]; rfl
    have b0 := hh_le p j
    refine Ev.step (fun _ => spec_poRanked.l0.eq_2 ..) (ev_pos (by omega) (ev_pos (by omega) (ev_pos (by omega) ?_)))
    have ih := poRanked_l0 g d (q + 1) (by omega)
    have hj' : rd (toI (ht p)) (j : Int) = ((hh p j : Nat) : Int) := rd_toI _ _
    rw [er, e0, e1, el, List.drop_eq_getElem_cons hq, List.all_cons, e0, e1, wrap_succ (by omega), toI_len, ht_len, hj', wrap_succ (by omega)]
    refine ev_pos (by omega) (ev_pos (by omega) (ev_pos (by omega) (ev_pos (by omega) (ev_pos (by omega) (ev_pos (by omega) (ev_ite (fun e => ?_) (fun e => ?_)))))))
    · have e' : (rd (toI (ht p)) (i : Int) == ((hh p j : Nat) : Int) + 1) = true := by rw [beq_iff_eq, e]; rfl
      rw [e', Bool.true_and]; exact ih
    · have e' : (rd (toI (ht p)) (i : Int) == ((hh p j : Nat) : Int) + 1) = false := by rw [beq_eq_false_iff_ne]; exact e
      rw [e', Bool.false_and]; exact Ev.now _
theorem poRanked_ev {p : List Nat} (g : Good p) : Ev (fun k => spec_poRanked.f k (toI p)) (rankedB p) :=
  Ev.bind (specHeights_ev g) (Ev.bind (specPairs_ev g) (poRanked_l0 g _ 0 (Nat.zero_add _)))
def rgB (l : List Int) : Bool := goodB l && rankedB (l.map Int.toNat)
theorem rvGood_ev (l : List Int) : Ev (fun k => spec_rvGood.f k l) (rgB l) := by
  refine Ev.bind (poGood_ev l) ?_
  unfold rgB
  refine ev_ite (fun e => ?_) (fun e => ?_)
  · obtain ⟨p, rfl, g⟩ := goodB_of e
    rw [e, Bool.true_and, toNat_toI]
    exact Ev.bind (poRanked_ev g) (Ev.now _)
  · rw [Bool.eq_false_iff.mpr e, Bool.false_and]; exact Ev.now _
theorem isRanked_ok {p : List Nat} (g : Good p) : impl_IsRanked.ok (toI (ht p)) (pairs p) = true := by
  unfold impl_IsRanked.ok
  have := pairs_len g
  rw [Bool.and_eq_true, decide_eq_true_eq, List.all_eq_true]
  refine ⟨by omega, fun c hc => ?_⟩
  obtain ⟨j, i, rfl, hj, hi, _⟩ := mem_pairs hc
  have e0 : rd [((j : Nat) : Int), ((i : Nat) : Int)] 0 = (j : Int) := rfl
  have e1 : rd [((j : Nat) : Int), ((i : Nat) : Int)] 1 = (i : Int) := rfl
  rw [e0, e1, toI_len, ht_len]
  simp only [Bool.and_eq_true, decide_eq_true_eq]
  exact ⟨⟨⟨⟨rfl, by omega⟩, by omega⟩, by omega⟩, by omega⟩
theorem isRanked_any {p : List Nat} (g : Good p) : (!((pairs p).any (impl_IsRanked.p (toI (ht p))))) = rankedB p := by
  unfold rankedB
  rw [Bool.eq_iff_iff, Bool.not_eq_true', List.any_eq_false, List.all_eq_true]
  refine forall_congr' fun c => forall_congr' fun hc => ?_
  obtain ⟨j, i, rfl, hj, hi, _⟩ := mem_pairs hc
  have e0 : rd [((j : Nat) : Int), ((i : Nat) : Int)] 0 = (j : Int) := rfl
  have hj' : rd (toI (ht p)) (j : Int) = ((hh p j : Nat) : Int) := rd_toI _ _
  have b0 := hh_le p j
  have gl := g.le
  unfold impl_IsRanked.p
  rw [e0, hj', wrap_succ (by omega), Int.natCast_succ, bne_iff_ne, ne_eq, Classical.not_not, beq_iff_eq]
theorem IsRanked_ev (l : List Int) : Ev (fun k => impl_IsRanked.f k l) (rgB l, goodB l) := by
  refine Ev.bind (isPoset_ev l) ?_
  unfold rgB
  refine ev_ite (fun e => ?_) (fun e => ?_)
  · obtain ⟨p, rfl, g⟩ := goodB_of e
    rw [e, Bool.true_and, toNat_toI]
    refine Ev.bind (implHeights_ev g) (Ev.bind (implCovers_ev g) (ev_pos (isRanked_ok g) ?_))
    rw [isRanked_any g]; exact Ev.now _
  · rw [Bool.eq_false_iff.mpr e, Bool.false_and]; exact Ev.now _
theorem isRanked_ev (l : List Int) : Ev (fun k => impl_isRanked.f k l) (rgB l) := Ev.bind (IsRanked_ev l) (Ev.now _)
theorem rgB_of {l : List Int} (h : rgB l = true) : ∃ p, l = toI p ∧ Good p ∧ rankedB p = true := by
  unfold rgB at h
  rw [Bool.and_eq_true] at h
  obtain ⟨p, rfl, g⟩ := goodB_of h.1
  exact ⟨p, rfl, g, by rw [toNat_toI] at h; exact h.2⟩
theorem rgB_mk {p : List Nat} (g : Good p) (h : rankedB p = true) : rgB (toI p) = true := by
  unfold rgB; rw [goodB_toI g, toNat_toI, h]; rfl
end Go.Proofs.Ytpdgiinedbdamaa.M
end
section
namespace Go.Proofs.Ytpdgiinedbdamaa.M
open Go.RowKit Go.Proofs.YtpdgiinedbdamaaW.PrintWords Go.Proofs.YtpdgiinedbdamaaW.PrintLast Go.Proofs.YtpdgiinedbdamaaW.PrintMore Go.Proofs.Ytpdgiinedbdamaa.L
set_option linter.unusedVariables false
def rvB (l : List Int) (s : Int) : Bool := idB l s && rgB l
theorem rvB_of {l : List Int} {s : Int} (h : rvB l s = true) : ∃ (p : List Nat) (t : Nat), l = toI p ∧ s = (t : Int) ∧ Good p ∧ IsId p t ∧ rankedB p = true := by
  unfold rvB at h
  rw [Bool.and_eq_true] at h
  obtain ⟨p, t, rfl, rfl, g, ht⟩ := idB_of h.1
  obtain ⟨p', e, _, hr⟩ := rgB_of h.2
  obtain rfl := toI_inj e
  exact ⟨p, t, rfl, rfl, g, ht, hr⟩
theorem isRankedIdeal_ev (l : List Int) (s : Int) : Ev (fun k => impl_isRankedIdeal.f k l s) (rvB l s) := by
  refine Ev.bind (isIdeal_ev l s) ?_
  unfold rvB
  refine ev_ite (fun e => ?_) (fun e => ?_)
  · rw [e, Bool.true_and]; exact Ev.bind (isRanked_ev l) (Ev.now _)
  · rw [Bool.eq_false_iff.mpr e, Bool.false_and]; exact Ev.now _
theorem rvIn_ev (l : List Int) (s : Int) : Ev (fun k => spec_rvIn.f k l s) (rvB l s) := by
  refine Ev.bind (rvGood_ev l) ?_
  unfold rvB
  rw [Bool.and_comm]
  refine ev_ite (fun e => ?_) (fun e => ?_)
  · obtain ⟨p, rfl, g, hr⟩ := rgB_of e
    unfold idB setB
    rw [e, Bool.true_and, goodB_toI g, Bool.true_and, toI_len, toNat_toI]
    refine ev_call (poSet_eq p s g.le) (ev_ite (fun e => ?_) (fun e => ?_))
    · have b := inB_iff.mp e
      have := Nat.two_pow_pos p.length
      obtain ⟨t, rfl⟩ : ∃ t : Nat, s = (t : Int) := ⟨s.toNat, by omega⟩
      rw [e, Bool.true_and, Int.toNat_natCast]
      exact Ev.bind (poIdeal_ev g (by omega)) (Ev.now _)
    · rw [Bool.eq_false_iff.mpr e, Bool.false_and]; exact Ev.now _
  · rw [Bool.eq_false_iff.mpr e, Bool.false_and]; exact Ev.now _
def mask (p : List Nat) (r : Nat) : Nat → Nat
  | 0 => 0
  | i + 1 => if hh p i = r then mask p r i ||| 2 ^ i else mask p r i
theorem mask_lt (p : List Nat) (r : Nat) : ∀ i, mask p r i < 2 ^ i
  | 0 => by simp [mask]
  | i + 1 => by
    have := mask_lt p r i
    have h2 : 2 ^ i < 2 ^ (i + 1) := Nat.pow_lt_pow_right (by decide) (by omega)
    unfold mask
    split
    · exact Nat.or_lt_two_pow (by omega) h2
    · omega
theorem mask_bit (p : List Nat) (r e : Nat) : ∀ i, (mask p r i).testBit e = (decide (e < i) && decide (hh p e = r))
  | 0 => by simp [mask]
  | i + 1 => by
    have ih := mask_bit p r e i
    unfold mask
    split
    · rename_i h
      rw [Nat.testBit_or, ih, Nat.testBit_two_pow]
      by_cases c : i = e
      · subst c; simp [h]
      · by_cases c2 : e < i
        · simp [c, c2, show e < i + 1 by omega]
        · simp [c, c2, show ¬ e < i + 1 by omega]
    · rename_i h
      rw [ih]
      by_cases c : i = e
      · subst c; simp [h]
      · by_cases c2 : e < i
        · simp [c2, show e < i + 1 by omega]
        · simp [c2, show ¬ e < i + 1 by omega]
def mxs (p : List Nat) : Nat → Nat
  | 0 => 0
  | i + 1 => max (mxs p i) (hh p i + 1)
def hgh (p : List Nat) : Nat := mxs p p.length
theorem mxs_le (p : List Nat) : ∀ i, mxs p i ≤ i
  | 0 => Nat.le_refl _
  | i + 1 => by have := mxs_le p i; have := hh_le p i; unfold mxs; omega
theorem mxs_ge (p : List Nat) {e : Nat} : ∀ i, e < i → hh p e + 1 ≤ mxs p i
  | 0, h => by omega
  | i + 1, h => by
    unfold mxs
    by_cases c : e = i
    · subst c; omega
    · have := mxs_ge p i (e := e) (by omega); omega
theorem mask_zero (p : List Nat) {r : Nat} : ∀ i, mxs p i ≤ r → mask p r i = 0
  | 0, _ => rfl
  | i + 1, h => by
    unfold mxs at h
    unfold mask
    rw [if_neg (by omega)]
    exact mask_zero p i (by omega)
def rks (p : List Nat) (M i : Nat) : List Nat := (List.range M).map fun r => mask p r i
theorem rks_len (p : List Nat) (M i : Nat) : (rks p M i).length = M := by simp [rks]
theorem rks_get (p : List Nat) {M i r : Nat} (h : r < M) : (rks p M i).getD r 0 = mask p r i := by simp [rks, List.getD_eq_getElem?_getD, h]
theorem rks_set (p : List Nat) {M i : Nat} : (rks p M i).set (hh p i) (mask p (hh p i) i ||| 2 ^ i) = rks p M (i + 1) := by
  apply List.ext_getElem (by simp [rks])
  intro r h1 h2
  rw [List.getElem_set]
  simp only [rks, List.getElem_map, List.getElem_range]
  by_cases c : hh p i = r
  · rw [if_pos c, mask, if_pos c, c]
  · rw [if_neg c, mask, if_neg c]
theorem rks_grow (p : List Nat) {M i : Nat} (h : mxs p i ≤ M) : toI (rks p M i) ++ [0] = toI (rks p (M + 1) i) := by
  unfold rks
  rw [List.range_succ, List.map_append, List.map_singleton, mask_zero p i h, toI_app]; rfl
theorem ht_eq (p : List Nat) : ht p = (List.range p.length).map (hh p) := by
  apply List.ext_getElem (by simp [ht_len])
  intro i h1 h2
  rw [List.getElem_map, List.getElem_range]
  simp [hh, List.getD_eq_getElem?_getD, h1]
theorem fold_mxs (p : List Nat) : ∀ i, (List.range i).foldl (fun a e => max a (hh p e + 1)) 0 = mxs p i
  | 0 => rfl
  | i + 1 => by rw [List.range_succ, List.foldl_append, fold_mxs p i]; rfl
theorem fold_mx (l : List Nat) : ∀ a : Nat, (toI l).foldl (fun m x => mx m x) (a : Int) = ((l.foldl max a : Nat) : Int) := by
  induction l with
  | nil => intro a; rfl
  | cons x l ih => intro a; rw [List.foldl_cons, ← ih (max a x), ← mx_nat]; rfl
theorem fold_max1 (l : List Nat) : ∀ a : Nat, l.foldl max a + 1 = l.foldl (fun a x => max a (x + 1)) (a + 1) := by
  induction l with
  | nil => intro a; rfl
  | cons x l ih => intro a; rw [List.foldl_cons, List.foldl_cons, ih, show max (a + 1) (x + 1) = max a x + 1 by omega]
theorem max_ev {p : List Nat} (g : Good p) : slices_Max_int_int.f (toI (ht p)) = some (((hgh p : Nat) : Int) - 1) := by
  have gl := g.le
  have gp := g.pos
  have e1 : hgh p = (ht p).foldl (fun a x => max a (x + 1)) 0 := by rw [ht_eq, List.foldl_map, fold_mxs]; rfl
  unfold slices_Max_int_int.f
  rw [if_pos (by rw [toI_len, ht_len]; omega)]
  refine congrArg some ?_
  unfold slices_Max_int_int.g
  rw [e1]
  cases hl : ht p with
  | nil => have := ht_len p; rw [hl] at this; simp at this; omega
  | cons x t =>
    have e2 : rd (toI (x :: t)) 0 = (x : Int) := rfl
    have e3 : (toI (x :: t)).drop 1 = toI t := rfl
    rw [e2, e3, fold_mx, List.foldl_cons, show max 0 (x + 1) = x + 1 by omega, ← fold_max1]
    omega
theorem implRanks_l0 {p : List Nat} (g : Good p) : ∀ (d i : Nat), i + d = p.length → Ev (fun k => impl_Poset_ranks.l0 k (toI (rks p (hgh p) i)) (toI (ht p)) ((toI (ht p)).length : Int) (i : Int)) (toI (rks p (hgh p) p.length))
  | 0, i, h => by
    refine Ev.step (fun _ => impl_Poset_ranks.l0.eq_2 ..) (ev_neg (by rw [toI_len, ht_len]; omega) ?_)
    obtain rfl : i = p.length := by omega
    exact Ev.now _
  | d + 1, i, h => by
    have gl := g.le
    have hm := mxs_ge p (e := i) p.length (by omega)
    have hm' : hh p i < hgh p := hm
    have ei : rd (toI (ht p)) (i : Int) = ((hh p i : Nat) : Int) := rd_toI _ _
    refine Ev.step (fun _ => impl_Poset_ranks.l0.eq_2 ..) (ev_pos (by rw [toI_len, ht_len]; omega) (ev_pos (by omega) (ev_pos (by rw [toI_len, ht_len]; omega) ?_)))
    rw [ei]
    refine ev_pos (by omega) (ev_pos (by rw [toI_len, rks_len]; omega) ?_)
    have h2 : 2 ^ i < 2 ^ 63 := Nat.pow_lt_pow_right (by decide) (by omega)
    have hml := Go.Proofs.Ytpdgiinedbdamaa.M.lt63 (mask_lt p (hh p i) i) (by omega)
    rw [rd_toI, rks_get p hm', shl_one (by omega), bits_or hml h2, Int.toNat_natCast, toI_set, rks_set, wrap_succ (by omega)]
    exact implRanks_l0 g d (i + 1) (by omega)
def ranks (p : List Nat) : List Nat := rks p (hgh p) p.length
theorem hgh_le {p : List Nat} (g : Good p) : 1 ≤ hgh p ∧ hgh p ≤ 10 := by
  have := mxs_le p p.length
  have := g.le
  have := g.pos
  have := mxs_ge p (e := 0) p.length (by omega)
  unfold hgh; omega
theorem implRanks_ev {p : List Nat} (g : Good p) : Ev (fun k => impl_Poset_ranks.f k (toI p)) (toI (ranks p)) := by
  have gh := hgh_le g
  refine Ev.bind (implHeights_ev g) (ev_call (max_ev g) ?_)
  rw [show ((hgh p : Nat) : Int) - 1 + 1 = ((hgh p : Nat) : Int) by omega, wrap_id (by omega) (by omega), Int.toNat_natCast]
  refine ev_pos (by omega) (ev_pos (by omega) ?_)
  have := implRanks_l0 g p.length 0 (by omega)
  have e : List.replicate (hgh p) (0 : Int) = toI (rks p (hgh p) 0) := by
    rw [show (0 : Int) = ((0 : Nat) : Int) from rfl, toI_rep]
    congr 1
    exact (List.eq_replicate_iff.mpr ⟨by simp [rks], by simp [rks, mask]⟩).symm
  rw [e]; exact this
theorem specRanks_l1 {p : List Nat} (g : Good p) (i : Nat) (hi : i < p.length) (r : List Int) (c : Ev (fun k => spec_rvRanks.l0 k (toI (rks p (mxs p (i + 1)) (i + 1))) (toI (ht p)) ((toI (ht p)).length : Int) ((i + 1 : Nat) : Int)) r) : ∀ (d M : Nat), hh p i + 1 ≤ M + d → mxs p i ≤ M → M ≤ mxs p (i + 1) →
    Ev (fun k => spec_rvRanks.l1 k (toI (rks p M i)) (i : Int) ((hh p i : Nat) : Int) (toI (ht p)) ((toI (ht p)).length : Int) (i : Int)) r
  | d, M, h, h1, h2 => by
    have gl := g.le
    have hle := hh_le p i
    have hM := mxs_le p (i + 1)
    by_cases hc : M ≤ hh p i
    · match d, h with
      | 0, h => omega
      | d + 1, h =>
        refine Ev.step (fun _ => spec_rvRanks.l1.eq_2 ..) (ev_pos (by rw [toI_len, rks_len]; omega) (ev_pos (by rw [toI_len, rks_len]; omega) ?_))
        rw [rks_grow p h1]
        exact specRanks_l1 g i hi r c d (M + 1) (by omega) (by omega) (by unfold mxs; omega)
    · refine Ev.step (fun _ => spec_rvRanks.l1.eq_2 ..) (ev_neg (by rw [toI_len, rks_len]; omega) (ev_pos (by omega) (ev_pos (by rw [toI_len, rks_len]; omega) (ev_pos (by omega) ?_))))
      have h3 : 2 ^ i < 2 ^ 63 := Nat.pow_lt_pow_right (by decide) (by omega)
      have hml := Go.Proofs.Ytpdgiinedbdamaa.M.lt63 (mask_lt p (hh p i) i) (by omega)
      rw [rd_toI, rks_get p (by omega), shl_one (by omega), bits_or hml h3, Int.toNat_natCast, toI_set, rks_set, wrap_succ (by omega)]
      have e : M = mxs p (i + 1) := by
        have : mxs p (i + 1) = max (mxs p i) (hh p i + 1) := rfl
        omega
      rw [e]; exact c
theorem specRanks_l0 {p : List Nat} (g : Good p) : ∀ (d i : Nat), i + d = p.length → Ev (fun k => spec_rvRanks.l0 k (toI (rks p (mxs p i) i)) (toI (ht p)) ((toI (ht p)).length : Int) (i : Int)) (toI (ranks p))
  | 0, i, h => by
    refine Ev.step (fun _ => spec_rvRanks.l0.eq_2 ..) (ev_neg (by rw [toI_len, ht_len]; omega) ?_)
    obtain rfl : i = p.length := by omega
    exact Ev.now _
  | d + 1, i, h => by
    have gl := g.le
    have ei : rd (toI (ht p)) (i : Int) = ((hh p i : Nat) : Int) := rd_toI _ _
    refine Ev.step (fun _ => spec_rvRanks.l0.eq_2 ..) (ev_pos (by rw [toI_len, ht_len]; omega) (ev_pos (by omega) (ev_pos (by rw [toI_len, ht_len]; omega) ?_)))
    rw [ei]
    exact specRanks_l1 g i (by omega) _ (specRanks_l0 g d (i + 1) (by omega)) (hh p i + 1) _ (by omega) (Nat.le_refl _) (by show mxs p i ≤ max _ _; omega)
theorem specRanks_ev {p : List Nat} (g : Good p) : Ev (fun k => spec_rvRanks.f k (toI p)) (toI (ranks p)) :=
  Ev.bind (specHeights_ev g) (specRanks_l0 g p.length 0 (by omega))
theorem ranks_len (p : List Nat) : (ranks p).length = hgh p := rks_len p _ _
theorem ranks_get (p : List Nat) {r : Nat} (h : r < hgh p) : rd (toI (ranks p)) (r : Int) = ((mask p r p.length : Nat) : Int) := by rw [rd_toI]; exact congrArg _ (rks_get p h)
theorem high_ev {p : List Nat} (g : Good p) : Ev (fun k => impl_Poset_high.f k (toI p)) (((hgh p - 1 : Nat) : Int)) := by
  have := hgh_le g
  refine Ev.bind (implRanks_ev g) ?_
  rw [toI_len, ranks_len, wrap_id (by omega) (by omega), show ((hgh p : Nat) : Int) - 1 = ((hgh p - 1 : Nat) : Int) by omega]
  exact Ev.now _
def tg (p : List Nat) (s e : Nat) : Nat := if idealB p (s ^^^ 2 ^ e) = true then s ^^^ 2 ^ e else s
theorem pow_lt' {p : List Nat} {e : Nat} (h : e < p.length) : 2 ^ e < 2 ^ p.length := Nat.pow_lt_pow_right (by decide) h
theorem tg_lt {p : List Nat} {s e : Nat} (hs : s < 2 ^ p.length) (h : e < p.length) : tg p s e < 2 ^ p.length := by
  unfold tg; split
  · exact Nat.xor_lt_two_pow hs (pow_lt' h)
  · exact hs
theorem tg_id {p : List Nat} {s e : Nat} (hs : IsId p s) (h : e < p.length) : IsId p (tg p s e) := by
  unfold tg; split
  · rename_i h2; exact (idealB_iff (Nat.xor_lt_two_pow hs.1 (pow_lt' h))).mp h2
  · exact hs
theorem toggle_ev {p : List Nat} (g : Good p) {s e : Nat} (hs : s < 2 ^ p.length) (he : e < p.length) : Ev (fun k => impl_Poset_toggle.f k (toI p) (s : Int) (e : Int)) ((tg p s e : Nat) : Int) := by
  have gl := g.le
  have hx := Nat.xor_lt_two_pow hs (pow_lt' he)
  refine ev_pos (by omega) ?_
  rw [shl_one (by omega), bits_xor (g.len63 hs) (g.len63 (pow_lt' he))]
  refine Ev.bind (close_ev g hx) ?_
  unfold tg
  rw [← close_beq hx]
  refine ev_ite (fun e => ?_) (fun e => ?_)
  · rw [if_pos (by rw [beq_iff_eq]; omega)]; exact Ev.now _
  · rw [if_neg (by rw [beq_iff_eq]; omega)]; exact Ev.now _
theorem tgAt_ev {p : List Nat} (g : Good p) {s e : Nat} (hs : s < 2 ^ p.length) (he : e < p.length) : Ev (fun k => spec_tgAt.f k (toI p) (s : Int) (e : Int)) ((tg p s e : Nat) : Int) := by
  have gl := g.le
  have hx := Nat.xor_lt_two_pow hs (pow_lt' he)
  refine ev_pos (by omega) ?_
  rw [shl_one (by omega), bits_xor (g.len63 hs) (g.len63 (pow_lt' he))]
  refine Ev.bind (poIdeal_ev g hx) ?_
  unfold tg
  refine ev_ite (fun e => ?_) (fun e => ?_)
  · rw [if_pos e]; exact Ev.now _
  · rw [if_neg e]; exact Ev.now _
theorem toggles_l0 {p : List Nat} (g : Good p) (w : List Nat) (hw : ∀ e ∈ w, e < p.length) (hl : w.length ≤ 100000) : ∀ (d q s : Nat), q + d = w.length → s < 2 ^ p.length →
    Ev (fun k => impl_Poset_toggles.l0 k (s : Int) (toI w) ((toI w).length : Int) (q : Int) (toI p)) ((((w.drop q).foldl (tg p) s : Nat)) : Int)
  | 0, q, s, h, hs => by
    refine Ev.step (fun _ => impl_Poset_toggles.l0.eq_2 ..) (ev_neg (by rw [toI_len]; omega) ?_)
    rw [List.drop_of_length_le (by omega)]; exact Ev.now _
  | d + 1, q, s, h, hs => by
    have hq : q < w.length := by omega
    have he := hw _ (List.getElem_mem hq)
    have er : rd (toI w) (q : Int) = ((w[q] : Nat) : Int) := by rw [rd_toI]; simp [List.getD_eq_getElem?_getD, hq]
    refine Ev.step (fun _ => impl_Poset_toggles.l0.eq_2 ..) (ev_pos (by rw [toI_len]; omega) (ev_pos (by omega) (ev_pos (by rw [toI_len]; omega) ?_)))
    rw [er, List.drop_eq_getElem_cons hq, List.foldl_cons, wrap_succ (by omega)]
    exact Ev.bind (toggle_ev g hs he) (toggles_l0 g w hw hl d (q + 1) _ (by omega) (tg_lt hs he))
theorem toggles_ev {p : List Nat} (g : Good p) (w : List Nat) (hw : ∀ e ∈ w, e < p.length) (hl : w.length ≤ 100000) {s : Nat} (hs : s < 2 ^ p.length) : Ev (fun k => impl_Poset_toggles.f k (toI p) (s : Int) (toI w)) (((w.foldl (tg p) s : Nat)) : Int) := by
  have := toggles_l0 g w hw hl w.length 0 s (by omega) hs
  rwa [List.drop_zero] at this
def tgS (p : List Nat) (s m : Nat) : Nat := foldBits p.length m (tg p) s
theorem tgS_lt {p : List Nat} {s m : Nat} (hs : s < 2 ^ p.length) : tgS p s m < 2 ^ p.length := foldBits_inv _ _ _ _ (· < 2 ^ p.length) hs (fun a e ha he _ => tg_lt ha he)
theorem tgS_id {p : List Nat} {s m : Nat} (hs : IsId p s) : IsId p (tgS p s m) := foldBits_inv _ _ _ _ (IsId p) hs (fun a e ha he _ => tg_id ha he)
theorem rvAt_l0 {p : List Nat} (g : Good p) (m : Nat) : ∀ (d i s : Nat), i + d = p.length → s < 2 ^ p.length →
    Ev (fun k => spec_rvAt.l0 k (s : Int) (m : Int) (p.length : Int) (i : Int) (toI p)) ((((List.range' i d).foldl (fun s e => if m.testBit e = true then tg p s e else s) s : Nat)) : Int)
  | 0, i, s, h, hs => Ev.step (fun _ => spec_rvAt.l0.eq_2 ..) (ev_neg (by omega) (Ev.now _))
  | d + 1, i, s, h, hs => by
    have gl := g.le
    refine Ev.step (fun _ => spec_rvAt.l0.eq_2 ..) (ev_pos (by omega) (ev_call (poIn_eq (by omega)) ?_))
    rw [List.range'_succ, List.foldl_cons, wrap_succ (by omega)]
    refine ev_ite (fun e => ?_) (fun e => ?_)
    · rw [if_pos e]
      exact Ev.bind (tgAt_ev g hs (by omega)) (rvAt_l0 g m d (i + 1) _ (by omega) (tg_lt hs (by omega)))
    · rw [if_neg e]; exact rvAt_l0 g m d (i + 1) s (by omega) hs
theorem rvAt_ev {p : List Nat} (g : Good p) (m : Nat) {s : Nat} (hs : s < 2 ^ p.length) : Ev (fun k => spec_rvAt.f k (toI p) (s : Int) (m : Int)) (((tgS p s m : Nat)) : Int) := by
  unfold spec_rvAt.f
  rw [toI_len]
  have := rvAt_l0 g m p.length 0 s (by omega) hs
  rw [← List.range_eq_range'] at this; exact this
def tgR (p : List Nat) (s r : Nat) : Nat := tgS p s (mask p r p.length)
theorem toggleRanks_l0 {p : List Nat} (g : Good p) (w : List Nat) (hw : ∀ r ∈ w, r < hgh p) (hl : w.length ≤ 100000) : ∀ (d q s : Nat), q + d = w.length → s < 2 ^ p.length →
    Ev (fun k => impl_Poset_toggleRanks.l0 k (s : Int) (toI (ranks p)) (toI w) ((toI w).length : Int) (q : Int) (toI p)) ((((w.drop q).foldl (tgR p) s : Nat)) : Int)
  | 0, q, s, h, hs => by
    refine Ev.step (fun _ => impl_Poset_toggleRanks.l0.eq_2 ..) (ev_neg (by rw [toI_len]; omega) ?_)
    rw [List.drop_of_length_le (by omega)]; exact Ev.now _
  | d + 1, q, s, h, hs => by
    have gl := g.le
    have hq : q < w.length := by omega
    have hr := hw _ (List.getElem_mem hq)
    have hmk := mask_lt p w[q] p.length
    have er : rd (toI w) (q : Int) = ((w[q] : Nat) : Int) := by rw [rd_toI]; simp [List.getD_eq_getElem?_getD, hq]
    refine Ev.step (fun _ => impl_Poset_toggleRanks.l0.eq_2 ..) (ev_pos (by rw [toI_len]; omega) (ev_pos (by omega) (ev_pos (by rw [toI_len]; omega) ?_)))
    rw [er]
    refine ev_pos (by omega) (ev_pos (by rw [toI_len, ranks_len]; omega) ?_)
    rw [ranks_get p hr, List.drop_eq_getElem_cons hq, List.foldl_cons, wrap_succ (by omega)]
    refine Ev.bind (items_ev (g.len63 hmk)) ?_
    refine Ev.bind (toggles_ev g (items (mask p w[q] p.length)) (fun e he => bit_lt hmk (mem_items.mp he).2) (by have := items_len (mask p w[q] p.length); omega) hs) ?_
    rw [foldl_items_n _ _ hmk gl]
    exact toggleRanks_l0 g w hw hl d (q + 1) _ (by omega) (tgS_lt hs)
theorem toggleRanks_ev {p : List Nat} (g : Good p) (w : List Nat) (hw : ∀ r ∈ w, r < hgh p) (hl : w.length ≤ 100000) {s : Nat} (hs : s < 2 ^ p.length) : Ev (fun k => impl_Poset_toggleRanks.f k (toI p) (s : Int) (toI w)) (((w.foldl (tgR p) s : Nat)) : Int) := by
  refine Ev.bind (implRanks_ev g) ?_
  have := toggleRanks_l0 g w hw hl w.length 0 s (by omega) hs
  rwa [List.drop_zero] at this
theorem rvWord_l0 {p : List Nat} (g : Good p) (w : List Nat) (hw : ∀ r ∈ w, r < hgh p) (hl : w.length ≤ 100000) : ∀ (d q s : Nat), q + d = w.length → s < 2 ^ p.length →
    Ev (fun k => spec_rvWord.l0 k (s : Int) (toI (ranks p)) (toI w) ((toI w).length : Int) (q : Int) (toI p)) ((((w.drop q).foldl (tgR p) s : Nat)) : Int)
  | 0, q, s, h, hs => by
    refine Ev.step (fun _ => spec_rvWord.l0.eq_2 ..) (ev_neg (by rw [toI_len]; omega) ?_)
    rw [List.drop_of_length_le (by omega)]; exact Ev.now _
  | d + 1, q, s, h, hs => by
    have gl := g.le
    have hq : q < w.length := by omega
    have hr := hw _ (List.getElem_mem hq)
    have er : rd (toI w) (q : Int) = ((w[q] : Nat) : Int) := by rw [rd_toI]; simp [List.getD_eq_getElem?_getD, hq]
    refine Ev.step (fun _ => spec_rvWord.l0.eq_2 ..) (ev_pos (by rw [toI_len]; omega) (ev_pos (by omega) (ev_pos (by rw [toI_len]; omega) ?_)))
    rw [er]
    refine ev_pos (by omega) (ev_pos (by rw [toI_len, ranks_len]; omega) ?_)
    rw [ranks_get p hr, List.drop_eq_getElem_cons hq, List.foldl_cons, wrap_succ (by omega)]
    exact Ev.bind (rvAt_ev g _ hs) (rvWord_l0 g w hw hl d (q + 1) _ (by omega) (tgS_lt hs))
theorem rvWord_ev {p : List Nat} (g : Good p) (w : List Nat) (hw : ∀ r ∈ w, r < hgh p) (hl : w.length ≤ 100000) {s : Nat} (hs : s < 2 ^ p.length) : Ev (fun k => spec_rvWord.f k (toI p) (s : Int) (toI w)) (((w.foldl (tgR p) s : Nat)) : Int) := by
  refine Ev.bind (specRanks_ev g) ?_
  have := rvWord_l0 g w hw hl w.length 0 s (by omega) hs
  rwa [List.drop_zero] at this
end Go.Proofs.Ytpdgiinedbdamaa.M
end
section
namespace Go.Proofs.Ytpdgiinedbdamaa.M
open Go.RowKit Go.Proofs.YtpdgiinedbdamaaW.PrintWords Go.Proofs.YtpdgiinedbdamaaW.PrintLast Go.Proofs.YtpdgiinedbdamaaW.PrintMore Go.Proofs.Ytpdgiinedbdamaa.L
set_option linter.unusedVariables false
theorem xor_bit (s e i : Nat) : (s ^^^ 2 ^ e).testBit i = (s.testBit i ^^ decide (e = i)) := by rw [Nat.testBit_xor, Nat.testBit_two_pow]
theorem xor_ne {s e i : Nat} (h : e ≠ i) : (s ^^^ 2 ^ e).testBit i = s.testBit i := by rw [xor_bit]; simp [h]
theorem xor_eq (s e : Nat) : (s ^^^ 2 ^ e).testBit e = !s.testBit e := by rw [xor_bit]; simp
def Can (p : List Nat) (s e : Nat) : Prop := (s.testBit e = true → ∀ f, s.testBit f = true → (less p f).testBit e = false) ∧ (s.testBit e = false → ∀ f, (less p e).testBit f = true → s.testBit f = true)
theorem can_iff {p : List Nat} (g : Good p) {s e : Nat} (hs : IsId p s) (he : e < p.length) : idealB p (s ^^^ 2 ^ e) = true ↔ Can p s e := by
  rw [idealB_iff (Nat.xor_lt_two_pow hs.1 (pow_lt' he))]
  constructor
  · rintro ⟨_, h⟩
    refine ⟨fun h1 f hf => ?_, fun h1 f hf => ?_⟩
    · apply Bool.eq_false_iff.mpr
      intro hc
      have b := g.bit hc
      have := h f (by rw [xor_ne (by omega)]; exact hf) e hc
      rw [xor_eq, h1] at this; cases this
    · have b := g.bit hf
      have := h e (by rw [xor_eq, h1]; rfl) f hf
      rwa [xor_ne (by omega)] at this
  · rintro ⟨h1, h2⟩
    refine ⟨Nat.xor_lt_two_pow hs.1 (pow_lt' he), fun f hf i hi => ?_⟩
    have b := g.bit hi
    by_cases c : e = f
    · subst c
      rw [xor_eq, Bool.not_eq_true'] at hf
      rw [xor_ne (by omega)]
      exact h2 hf i hi
    · rw [xor_ne c] at hf
      have hsi := hs.2 f hf i hi
      by_cases c2 : e = i
      · subst c2
        rw [h1 hsi f hf] at hi; cases hi
      · rw [xor_ne c2]; exact hsi
theorem between {p : List Nat} {i j : Nat} (h : covB p j i = false) (hb : (less p i).testBit j = true) : ∃ k, (less p i).testBit k = true ∧ (less p k).testBit j = true := by
  unfold covB at h
  rw [hb, Bool.true_and, List.all_eq_false] at h
  obtain ⟨k, _, hk⟩ := h
  rw [Bool.not_eq_true', Bool.not_eq_false, Bool.and_eq_true] at hk
  exact ⟨k, hk⟩
theorem can_step {p : List Nat} (g : Good p) {s i j : Nat} (hs : IsId p s) (ht : IsId p (s ^^^ 2 ^ i)) (hij : i ≠ j) (c1 : covB p i j = false) (c2 : covB p j i = false) (h : Can p s j) : Can p (s ^^^ 2 ^ i) j := by
  refine ⟨fun h1 f hf => ?_, fun h1 f hf => ?_⟩
  · rw [xor_ne hij] at h1
    apply Bool.eq_false_iff.mpr
    intro hc
    by_cases c : i = f
    · subst c
      obtain ⟨k, hk1, hk2⟩ := between c2 hc
      have b := g.bit hk1
      have := ht.2 i hf k hk1
      rw [xor_ne (by omega)] at this
      rw [h.1 h1 k this] at hk2; cases hk2
    · rw [xor_ne c] at hf
      rw [h.1 h1 f hf] at hc; cases hc
  · rw [xor_ne hij] at h1
    have hsf := h.2 h1 f hf
    by_cases c : i = f
    · subst c
      obtain ⟨k, hk1, hk2⟩ := between c1 hf
      have b := g.bit hk2
      have hk := h.2 h1 k hk1
      have hk' : (s ^^^ 2 ^ i).testBit k = true := by rw [xor_ne (by omega)]; exact hk
      exact ht.2 k hk' i hk2
    · rw [xor_ne c]; exact hsf
theorem can_tg {p : List Nat} (g : Good p) {s i j : Nat} (hs : IsId p s) (hi : i < p.length) (hij : i ≠ j) (c1 : covB p i j = false) (c2 : covB p j i = false) : Can p (tg p s i) j ↔ Can p s j := by
  have ht := tg_id hs hi
  unfold tg at ht ⊢
  split
  · rename_i h
    rw [if_pos h] at ht
    refine ⟨fun h2 => ?_, fun h2 => can_step g hs ht hij c1 c2 h2⟩
    have e : s ^^^ 2 ^ i ^^^ 2 ^ i = s := by rw [Nat.xor_assoc, Nat.xor_self, Nat.xor_zero]
    have := can_step (s := s ^^^ 2 ^ i) g ht (by rw [e]; exact hs) hij c1 c2 h2
    rwa [e] at this
  · exact Iff.rfl
theorem tg_if {p : List Nat} (g : Good p) {s e : Nat} (hs : IsId p s) (he : e < p.length) (C : Prop) [Decidable C] (h : Can p s e ↔ C) : tg p s e = if C then s ^^^ 2 ^ e else s := by
  unfold tg
  by_cases c : C
  · rw [if_pos c, if_pos ((can_iff g hs he).mpr (h.mpr c))]
  · rw [if_neg c, if_neg (fun hc => c (h.mp ((can_iff g hs he).mp hc)))]
theorem tg_comm {p : List Nat} (g : Good p) {s i j : Nat} (hs : IsId p s) (hi : i < p.length) (hj : j < p.length) (c1 : covB p i j = false) (c2 : covB p j i = false) : tg p (tg p s i) j = tg p (tg p s j) i := by
  by_cases hij : i = j
  · rw [hij]
  · have e1 := tg_if g (tg_id hs hi) hj (idealB p (s ^^^ 2 ^ j) = true) ((can_tg g hs hi hij c1 c2).trans (can_iff g hs hj).symm)
    have e2 := tg_if g (tg_id hs hj) hi (idealB p (s ^^^ 2 ^ i) = true) ((can_tg g hs hj (Ne.symm hij) c2 c1).trans (can_iff g hs hi).symm)
    rw [e1, e2]
    unfold tg
    by_cases a : idealB p (s ^^^ 2 ^ i) = true <;> by_cases b : idealB p (s ^^^ 2 ^ j) = true
    · rw [if_pos b, if_pos a, if_pos a, if_pos b, Nat.xor_assoc, Nat.xor_assoc, Nat.xor_comm (2 ^ i)]
    · rw [if_neg b, if_pos a, if_pos a, if_neg b]
    · rw [if_pos b, if_neg a, if_neg a, if_pos b]
    · rw [if_neg b, if_neg a, if_neg a, if_neg b]
def Free (p : List Nat) (a b : Nat) : Prop := ∀ x y, a.testBit x = true → b.testBit y = true → covB p x y = false ∧ covB p y x = false
theorem fold_comm {p : List Nat} (g : Good p) {b x : Nat} (hx : x < p.length) : ∀ (n : Nat), n ≤ p.length → ∀ (s : Nat), IsId p s → (∀ y, y < n → b.testBit y = true → covB p x y = false ∧ covB p y x = false) →
    tg p (foldBits n b (tg p) s) x = foldBits n b (tg p) (tg p s x)
  | 0, hn, s, hs, h => rfl
  | n + 1, hn, s, hs, h => by
    have ih := fold_comm g hx n (by omega) s hs fun y hy hb => h y (by omega) hb
    rw [foldBits_succ, foldBits_succ]
    split
    · rename_i hb
      have hi : IsId p (foldBits n b (tg p) s) := foldBits_inv _ _ _ _ (IsId p) hs (fun a e ha he _ => tg_id ha (by omega))
      have hc := h n (by omega) hb
      rw [tg_comm g hi (by omega) hx hc.2 hc.1, ih]
    · exact ih
theorem fold_union {p : List Nat} (g : Good p) {a b : Nat} (hab : ∀ x, a.testBit x = true → b.testBit x = false) (hf : Free p a b) : ∀ (n : Nat), n ≤ p.length → ∀ (s : Nat), IsId p s → foldBits n (a ||| b) (tg p) s = foldBits n b (tg p) (foldBits n a (tg p) s)
  | 0, hn, s, hs => rfl
  | n + 1, hn, s, hs => by
    have ih := fold_union g hab hf n (by omega) s hs
    have hi : IsId p (foldBits n a (tg p) s) := foldBits_inv _ _ _ _ (IsId p) hs (fun a e ha he _ => tg_id ha (by omega))
    rw [foldBits_succ, foldBits_succ, foldBits_succ, Nat.testBit_or, ih]
    by_cases ha : a.testBit n = true
    · have hb := hab n ha
      rw [ha, hb, Bool.true_or, if_pos rfl, if_pos rfl, if_neg (by simp)]
      exact fold_comm g (by omega) n (by omega) _ hi fun y hy hby => hf n y ha hby
    · rw [Bool.eq_false_iff.mpr ha, Bool.false_or, if_neg (c := false = true) (by simp)]
theorem tgS_union {p : List Nat} (g : Good p) {a b s : Nat} (hab : ∀ x, a.testBit x = true → b.testBit x = false) (hf : Free p a b) (hs : IsId p s) : tgS p s (a ||| b) = tgS p (tgS p s a) b := fold_union g hab hf _ (Nat.le_refl _) s hs
theorem ranked_cov {p : List Nat} (hr : rankedB p = true) {i j : Nat} (hi : i < p.length) (hj : j < p.length) (h : covB p j i = true) : hh p i = hh p j + 1 := by
  unfold rankedB at hr
  rw [List.all_eq_true] at hr
  have hm : [((j : Nat) : Int), ((i : Nat) : Int)] ∈ pairs p := by
    unfold pairs
    simp only [List.mem_flatMap, List.mem_range, List.mem_map, List.mem_filter]
    exact ⟨j, hj, i, ⟨hi, h⟩, rfl⟩
  have := hr _ hm
  have e0 : rd [((j : Nat) : Int), ((i : Nat) : Int)] 0 = (j : Int) := rfl
  have e1 : rd [((j : Nat) : Int), ((i : Nat) : Int)] 1 = (i : Int) := rfl
  have hj' : rd (toI (ht p)) (j : Int) = ((hh p j : Nat) : Int) := rd_toI _ _
  have hi' : rd (toI (ht p)) (i : Int) = ((hh p i : Nat) : Int) := rd_toI _ _
  rw [e0, e1, hi', hj', beq_iff_eq] at this
  omega
def parM (p : List Nat) (b : Nat) : Nat → Nat
  | 0 => 0
  | r + 1 => if r % 2 = b then parM p b r ||| mask p r p.length else parM p b r
def parW (b : Nat) : Nat → List Nat
  | 0 => []
  | r + 1 => if r % 2 = b then parW b r ++ [r] else parW b r
theorem parM_bit (p : List Nat) (b x : Nat) : ∀ r, (parM p b r).testBit x = true → x < p.length ∧ hh p x < r ∧ hh p x % 2 = b
  | 0, h => by simp [parM] at h
  | r + 1, h => by
    unfold parM at h
    split at h
    · rw [Nat.testBit_or, Bool.or_eq_true] at h
      rcases h with h | h
      · have := parM_bit p b x r h; omega
      · rw [mask_bit, Bool.and_eq_true, decide_eq_true_eq, decide_eq_true_eq] at h; omega
    · have := parM_bit p b x r h; omega
theorem par_free {p : List Nat} (hr : rankedB p = true) {a c : Nat} (b : Nat) (ha : ∀ x, a.testBit x = true → x < p.length ∧ hh p x % 2 = b) (hc : ∀ x, c.testBit x = true → x < p.length ∧ hh p x % 2 = b) : Free p a c := by
  intro x y hx hy
  have h1 := ha x hx
  have h2 := hc y hy
  constructor
  · apply Bool.eq_false_iff.mpr; intro h
    have := ranked_cov hr h2.1 h1.1 h; omega
  · apply Bool.eq_false_iff.mpr; intro h
    have := ranked_cov hr h1.1 h2.1 h; omega
theorem par_up {p : List Nat} (g : Good p) (hr : rankedB p = true) (b : Nat) : ∀ (r : Nat) (s : Nat), IsId p s → tgS p s (parM p b r) = (parW b r).foldl (tgR p) s
  | 0, s, hs => by
    show foldBits p.length 0 (tg p) s = s
    exact foldl_none 0 (tg p) _ s fun e _ => Nat.zero_testBit e
  | r + 1, s, hs => by
    have ih := par_up g hr b r s hs
    unfold parM parW
    split
    · rename_i hb
      rw [List.foldl_append, ← ih]
      refine tgS_union g (fun x hx => ?_) (par_free hr b (fun x hx => ?_) (fun x hx => ?_)) hs
      · have := parM_bit p b x r hx
        rw [mask_bit, Bool.and_eq_false_iff]; right; rw [decide_eq_false_iff_not]; omega
      · have := parM_bit p b x r hx; omega
      · rw [mask_bit, Bool.and_eq_true, decide_eq_true_eq, decide_eq_true_eq] at hx; omega
    · exact ih
theorem par_down {p : List Nat} (g : Good p) (hr : rankedB p = true) (b : Nat) : ∀ (r : Nat) (s : Nat), IsId p s → tgS p s (parM p b r) = (parW b r).reverse.foldl (tgR p) s
  | 0, s, hs => by
    show foldBits p.length 0 (tg p) s = s
    exact foldl_none 0 (tg p) _ s fun e _ => Nat.zero_testBit e
  | r + 1, s, hs => by
    unfold parM parW
    split
    · rename_i hb
      have e := par_down g hr b r (tgR p s r) (tgS_id hs)
      rw [List.reverse_append, List.reverse_singleton, List.singleton_append, List.foldl_cons, ← e, Nat.or_comm]
      refine tgS_union g (fun x hx => ?_) (par_free hr b (fun x hx => ?_) (fun x hx => ?_)) hs
      · apply Bool.eq_false_iff.mpr; intro h
        have := parM_bit p b x r h
        rw [mask_bit, Bool.and_eq_true, decide_eq_true_eq, decide_eq_true_eq] at hx; omega
      · rw [mask_bit, Bool.and_eq_true, decide_eq_true_eq, decide_eq_true_eq] at hx; omega
      · have := parM_bit p b x r hx; omega
    · exact par_down g hr b r s hs
theorem parM_lt {p : List Nat} (b : Nat) : ∀ r, parM p b r < 2 ^ p.length
  | 0 => Nat.two_pow_pos _
  | r + 1 => by
    unfold parM; split
    · exact Nat.or_lt_two_pow (parM_lt b r) (mask_lt p r _)
    · exact parM_lt b r
theorem mem_parW {b x : Nat} : ∀ {r}, x ∈ parW b r → x < r
  | 0, h => by simp [parW] at h
  | r + 1, h => by
    unfold parW at h; split at h
    · rw [List.mem_append, List.mem_singleton] at h
      rcases h with h | h
      · have := mem_parW h; omega
      · omega
    · have := mem_parW h; omega
theorem parW_len (b : Nat) : ∀ r, (parW b r).length ≤ r
  | 0 => Nat.le_refl _
  | r + 1 => by
    have := parW_len b r
    unfold parW; split
    · simp; omega
    · omega
end Go.Proofs.Ytpdgiinedbdamaa.M
end
section
namespace Go.Proofs.Ytpdgiinedbdamaa.L
open Go.RowKit Go.Proofs.YtpdgiinedbdamaaW.PrintWords Go.Proofs.YtpdgiinedbdamaaW.PrintLast Go.Proofs.YtpdgiinedbdamaaW.PrintMore
attribute [local go_sem] max2_int min2_int max_two min_two max_three min_three max_four min_four
set_option linter.unusedVariables false
set_option linter.unusedSimpArgs false
def spec_l1Own.f (l0 : List Int) : Option (List Int) := (some (([] : List Int) : List Int)).bind fun y352 => (if y352.length + l0.length < 17592186044416 then (some (y352 ++ l0)) else (none))
set_option maxHeartbeats 8000000 in
set_option maxRecDepth 100000 in
theorem spec_l1Own.calls (A0 : Option Addr) (c0 : Nat) (l0 : List Int) (r : List Int) (w : World) (hr0 : Kd.C (Kd.int .i64) w A0 l0.length l0) (hc0 : l0.length ≤ c0) (h : spec_l1Own.f l0 = some r) :
    Calls Try.prog 54 #[.slice A0 l0.length c0] w fun e w' => ∃ v0_ : Value, e = .returned (v0_) ∧ Kd.R (Kd.int .i64) 3 w' w.heap.size (fun _ => True) v0_ r ∧ Below w.heap.size w w' := by
  have HR0 := Aside0.mk hr0
  have HC0 := Aside0.mk hc0
  clear hr0 hc0
  have HB := Aside0.mk (Below.refl w.heap.size w)
  have H : ((some (([] : List Int) : List Int)).bind fun y352 => (if y352.length + l0.length < 17592186044416 then (some (y352 ++ l0)) else (none))) = some r := h
  clear h
  obtain ⟨y352, hy352⟩ : ∃ y_ : List Int, y_ = (([] : List Int)) := ⟨_, rfl⟩
  replace H : (if y352.length + l0.length < 17592186044416 then (some (y352 ++ l0)) else (none)) = some r := by first | (rw [hy352]; with_reducible exact H) | (have H2_ := (Option.bind_some _ _).symm.trans H; rw [hy352]; with_reducible exact H2_) | (have H2_ := (Option.bind_some _ _).symm.trans H; with_reducible exact H2_) | with_reducible exact H | (rw [hy352]; exact H) | exact H
  have Ny352 := Aside0.mk hy352
  clear hy352
  by_cases c2 : y352.length + l0.length < 17592186044416
  · rw [if_pos c2] at H
    have LMc2 := Aside0.mk c2
    clear c2
    obtain ⟨y355, hy355⟩ : ∃ y_ : List Int, y_ = (y352 ++ l0) := ⟨_, rfl⟩
    replace H : (some y355) = some r := by first | (rw [hy355]; with_reducible exact H) | (have H2_ := (Option.bind_some _ _).symm.trans H; rw [hy355]; with_reducible exact H2_) | (have H2_ := (Option.bind_some _ _).symm.trans H; with_reducible exact H2_) | with_reducible exact H | (rw [hy355]; exact H) | exact H
    have Ny355 := Aside0.mk hy355
    clear hy355
    obtain rfl := Option.some.inj H
    go_enter Try.func54, Try.ntmps54
    go_wp2_with (first | ((with_reducible refine gate_dst (N := 3) rfl ?_); refine Kd.R_lit (Kd.int .i64) _ 3 ?hg (N := 3) ?hd (xs := ([] : List Int)) (inner := []) (ok := fun _ => True) (okp := fun _ => True) ?hr ?hp (fun _ hk => hk) trivial (Below.refl _ _) (Nat.le_refl _) (by simp) ?_; (case hd => rfl); (case hg => rfl); (case hr => first | (go_simp; done) | (go_simp; rfl)); (case hp => exact (Reps.none _ _)); intro v353 w3 ho4 hb hg_ hnew_; clear hg_ hnew_; (first | rw [← Ny352.out] at ho4 | (simp only [Int.reduceToNat] at ho4; rw [← Ny352.out] at ho4)); have n0_ := Aside0.mk (Kd.R_lower ho4 (below_size (by repeat (first | (with_reducible first | exact HB.out | apply below_alloc | apply pw_below_drewN | apply below_drew1) | exact HB.out)))); have n1_ := Aside0.mk (below_step (by repeat (first | (with_reducible first | exact HB.out | apply below_alloc | apply pw_below_drewN | apply below_drew1) | exact HB.out)) hb); clear HB; have HO354 := n0_; have HB := n1_; clear n0_ n1_; clear hb ho4) | ((with_reducible refine gate_builtin (b := .append) (xs := #[.tmp 3, .tmp 4]) rfl ?_); at_builtin; refine Kd.R_append_rows (Kd.int .i64) (w0 := w) w.heap.size rfl (.tmp 3) (.tmp 4) 22 3 (.int .i64 0) 8 rfl Try.underlying22 info3 rfl (by decide) (by omega) v353 y352 l0 _ _ _ (fun _ => True) (fun _ => False) rfl rfl ?aO ?aR (fun _ _ h => h) (fun _ h => h.elim) ?aF ?aB ?aS ?aL ?_; (case aR => repeat (first | exact (Kd.C_below HR0.out HB.out) | (with_reducible refine Kd.C_alloc ?_ _) | (with_reducible refine Kd.C_drewN ?_ _) | (with_reducible refine Kd.C_drew ?_))); (case aB => exact (by repeat (first | (with_reducible first | exact HB.out | apply below_alloc | apply pw_below_drewN | apply below_drew1) | exact HB.out))); (case aF => exact (fun _ _ => trivial)); (case aO => exact (by (with_reducible repeat (first | apply Kd.R_alloc | apply Kd.R_drewN | apply Kd.R_drew)); exact HO354.out)); (case aS => exact (below_size (by repeat (first | (with_reducible first | exact HB.out | apply below_alloc | apply pw_below_drewN | apply below_drew1) | exact HB.out)))); (case aL => have := LMc2.out; omega); intro v356 w5 ho hb hg hat; rw [← Ny355.out] at ho; have n0_ := Aside0.mk (hb); have n1_ := Aside0.mk (ho); clear HB; clear HO354; have HB := n0_; have HO357 := n1_; clear n0_ n1_; clear ho hb hg hat))
    go_ret
    exact ⟨_, by first | rfl | (simp [errW_none, errW_some] <;> rfl) | (simp [*, errW_none, errW_some] <;> rfl), by (with_reducible repeat (first | apply Kd.R_alloc | apply Kd.R_drewN | apply Kd.R_drew)); exact HO357.out, by repeat (first | (with_reducible first | exact HB.out | apply below_alloc | apply pw_below_drewN | apply below_drew1) | exact HB.out)⟩
  · rw [if_neg c2] at H
    exact absurd H (by simp)
end Go.Proofs.Ytpdgiinedbdamaa.L
end
section
namespace Go.Proofs.Ytpdgiinedbdamaa.L
open Go.RowKit Go.Proofs.YtpdgiinedbdamaaW.PrintWords Go.Proofs.YtpdgiinedbdamaaW.PrintLast Go.Proofs.YtpdgiinedbdamaaW.PrintMore
attribute [local go_sem] max2_int min2_int max_two min_two max_three min_three max_four min_four
set_option linter.unusedVariables false
set_option linter.unusedSimpArgs false
def impl_numbered.l0 : Nat → List Int → Int → Int → Option (List Int)
  | 0, _, _, _ => none
  | k + 1, x3, x6, x7 => if x7 < x6 then (if x3.length < 17592186044416 then (impl_numbered.l0 k (x3 ++ [x7]) x6 (wrap64 (x7 + 1))) else (none)) else (some x3)
def impl_numbered.f (k : Nat) (a0 : Int) : Option (List Int) := impl_numbered.l0 k (([] : List Int)) a0 0
theorem impl_numbered.mono_l : ∀ k, (∀ y0 y1 y2, LeO (impl_numbered.l0 k y0 y1 y2) (impl_numbered.l0 (k + 1) y0 y1 y2))
  | 0 => fun _ _ _ r h => by simp [impl_numbered.l0] at h
  | k + 1 => by
    have ih0 := impl_numbered.mono_l k
    · intro y0 y1 y2
      unfold impl_numbered.l0
      repeat' first
      | (with_reducible exact ih0 _ _ _)
      | (with_reducible exact LeO.refl _)
      | (with_reducible exact LeO.none _)
      | (with_reducible refine LeO.ite ?_ ?_)
      | (with_reducible refine LeO.bind ?_ (fun _ => ?_))
      | exact ih0 _ _ _
      | exact LeO.none _
      | refine LeO.ite ?_ ?_
      | refine LeO.bind ?_ (fun _ => ?_)
theorem impl_numbered.mono : ∀ a0 k, LeO (impl_numbered.f k a0) (impl_numbered.f (k + 1) a0) := by
  intro a0 k
  have ih0 := impl_numbered.mono_l k
  unfold impl_numbered.f
  repeat' first
      | (with_reducible exact ih0 _ _ _)
      | (with_reducible exact LeO.refl _)
      | (with_reducible exact LeO.none _)
      | (with_reducible refine LeO.ite ?_ ?_)
      | (with_reducible refine LeO.bind ?_ (fun _ => ?_))
      | exact ih0 _ _ _
      | exact LeO.none _
      | refine LeO.ite ?_ ?_
      | refine LeO.bind ?_ (fun _ => ?_)
set_option maxHeartbeats 8000000 in
set_option maxRecDepth 100000 in
theorem impl_numbered.calls (k : Nat) (a0 : Int) (r : List Int) (w : World) (h : impl_numbered.f k a0 = some r) :
    Calls Try.prog 59 #[.int .i64 a0] w fun e w' => ∃ v0_ : Value, e = .returned (v0_) ∧ Kd.R (Kd.int .i64) 3 w' w.heap.size (fun _ => True) v0_ r ∧ Below w.heap.size w w' := by
  have HB := Aside0.mk (Below.refl w.heap.size w)
  have H : (impl_numbered.l0 k (([] : List Int)) a0 0) = some r := h
  clear h
  obtain ⟨y426, hy426⟩ : ∃ y_ : List Int, y_ = (([] : List Int)) := ⟨_, rfl⟩
  replace H : (impl_numbered.l0 k y426 a0 0) = some r := by first | (rw [hy426]; with_reducible exact H) | (have H2_ := (Option.bind_some _ _).symm.trans H; rw [hy426]; with_reducible exact H2_) | (have H2_ := (Option.bind_some _ _).symm.trans H; with_reducible exact H2_) | with_reducible exact H | (rw [hy426]; exact H) | exact H
  have Ny426 := Aside0.mk hy426
  clear hy426
  have H' := Aside0.mk H
  clear H
  go_enter Try.func59, Try.ntmps59
  go_wp2_with (first | ((with_reducible refine gate_dst (N := 5) rfl ?_); refine Kd.R_lit (Kd.int .i64) _ 3 ?hg (N := 5) ?hd (xs := ([] : List Int)) (inner := []) (ok := fun _ => True) (okp := fun _ => True) ?hr ?hp (fun _ hk => hk) trivial (Below.refl _ _) (Nat.le_refl _) (by simp) ?_; (case hd => rfl); (case hg => rfl); (case hr => first | (go_simp; done) | (go_simp; rfl)); (case hp => exact (Reps.none _ _)); intro v427 w2 ho3 hb hg_ hnew_; clear hg_ hnew_; (first | rw [← Ny426.out] at ho3 | (simp only [Int.reduceToNat] at ho3; rw [← Ny426.out] at ho3)); have n0_ := Aside0.mk (Kd.R_lower ho3 (below_size (by repeat (first | (with_reducible first | exact HB.out | apply below_alloc | apply pw_below_drewN | apply below_drew1) | exact HB.out)))); have n1_ := Aside0.mk (below_step (by repeat (first | (with_reducible first | exact HB.out | apply below_alloc | apply pw_below_drewN | apply below_drew1) | exact HB.out)) hb); clear HB; have HO428 := n0_; have HB := n1_; clear n0_ n1_; clear hb ho3))
  go_loopg [3, 7] k (fun kq v3 v7 w' => ∃ (x3_1 : List Int) (x7_1 : Int), v7 = .int .i64 x7_1 ∧ Aside0 (impl_numbered.l0 kq x3_1 a0 x7_1 = some r) ∧ Aside0 (kq ≤ k) ∧ Aside0 (Kd.R (Kd.int .i64) 3 w' w.heap.size (fun _ => True) v3 x3_1) ∧ Aside0 (Below w.heap.size w w'))
  case atStart => exact ⟨(y426), (0), (by first | rfl | (simp; done) | (simp [*]; done)), H', ⟨Nat.le_refl _⟩, ⟨by (with_reducible repeat (first | apply Kd.R_alloc | apply Kd.R_drewN | apply Kd.R_drew)); exact HO428.out⟩, ⟨by repeat (first | (with_reducible first | exact HB.out | apply below_alloc | apply pw_below_drewN | apply below_drew1) | exact HB.out)⟩⟩
  case round =>
    clear H'
    try clear p2
    obtain ⟨x3_1, x7_1, rfl, HA, HK1, HO_3, HB⟩ := hrel
    cases gk with
    | zero => exact absurd HA.out (by simp [impl_numbered.l0])
    | succ k1 =>
      have H := HA.out
      clear HA
      simp only [impl_numbered.l0] at H
      by_cases c4 : x7_1 < a0
      · rw [if_pos c4] at H
        have c4b0 : decide (x7_1 < a0) = true := decide_eq_true c4
        clear c4
        by_cases c5 : x3_1.length < 17592186044416
        · rw [if_pos c5] at H
          have LMc5 := Aside0.mk c5
          clear c5
          obtain ⟨y429, hy429⟩ : ∃ y_ : List Int, y_ = (x3_1 ++ [x7_1]) := ⟨_, rfl⟩
          replace H : (impl_numbered.l0 k1 y429 a0 (wrap64 (x7_1 + 1))) = some r := by first | (rw [hy429]; with_reducible exact H) | (have H2_ := (Option.bind_some _ _).symm.trans H; rw [hy429]; with_reducible exact H2_) | (have H2_ := (Option.bind_some _ _).symm.trans H; with_reducible exact H2_) | with_reducible exact H | (rw [hy429]; exact H) | exact H
          have Ny429 := Aside0.mk hy429
          clear hy429
          have H' := Aside0.mk H
          clear H
          go_wp2_with (first | ((with_reducible refine gate_builtin (b := .append) (xs := #[.tmp 10, .tmp 12]) rfl ?_); at_builtin; refine Kd.R_append (Kd.int .i64) (w0 := w) w.heap.size rfl (.tmp 10) (.tmp 12) 22 3 (.int .i64 0) 8 rfl Try.underlying22 info3 rfl (by decide) (by omega) u3 x3_1 x7_1 [.int .i64 x7_1] (fun _ => True) (fun _ => False) rfl rfl ?aP (fun _ hk => hk.elim) ?aF ?aO ?aB ?aS ?aL ?_; (case aP => exact rfl); (case aB => exact (by repeat (first | (with_reducible first | exact HB.out | apply below_alloc | apply pw_below_drewN | apply below_drew1) | exact HB.out))); (case aF => exact (fun _ _ => trivial)); (case aO => exact (by (with_reducible repeat (first | apply Kd.R_alloc | apply Kd.R_drewN | apply Kd.R_drew)); exact HO_3.out)); (case aS => exact (below_size (by repeat (first | (with_reducible first | exact HB.out | apply below_alloc | apply pw_below_drewN | apply below_drew1) | exact HB.out)))); (case aL => have := LMc5.out; omega); intro v430 w6 ho hb hg hat; rw [← Ny429.out] at ho; have n0_ := Aside0.mk (hb); have n1_ := Aside0.mk (ho); clear HB; clear HO_3; have HB := n0_; have HO431 := n1_; clear n0_ n1_; clear ho hb hg hat))
          go_roundg k1
          case measure => have := HK1.out; omega
          case rel => exact ⟨(y429), (wrap64 (x7_1 + 1)), (by first | rfl | (simp; done) | (simp [*]; done)), H', ⟨by have := HK1.out; omega⟩, ⟨by (with_reducible repeat (first | apply Kd.R_alloc | apply Kd.R_drewN | apply Kd.R_drew)); exact HO431.out⟩, ⟨by repeat (first | (with_reducible first | exact HB.out | apply below_alloc | apply pw_below_drewN | apply below_drew1) | exact HB.out)⟩⟩
        · rw [if_neg c5] at H
          exact absurd H (by simp)
      · rw [if_neg c4] at H
        have c4b0 : decide (x7_1 < a0) = false := decide_eq_false c4
        clear c4
        obtain rfl := Option.some.inj H
        go_wp2
        go_ret
        exact ⟨_, by first | rfl | (simp [errW_none, errW_some] <;> rfl) | (simp [*, errW_none, errW_some] <;> rfl), by (with_reducible repeat (first | apply Kd.R_alloc | apply Kd.R_drewN | apply Kd.R_drew)); exact HO_3.out, by repeat (first | (with_reducible first | exact HB.out | apply below_alloc | apply pw_below_drewN | apply below_drew1) | exact HB.out)⟩
end Go.Proofs.Ytpdgiinedbdamaa.L
end
section
namespace Go.Proofs.Ytpdgiinedbdamaa.M
open Go.RowKit Go.Proofs.YtpdgiinedbdamaaW.PrintWords Go.Proofs.YtpdgiinedbdamaaW.PrintLast Go.Proofs.YtpdgiinedbdamaaW.PrintMore Go.Proofs.Ytpdgiinedbdamaa.L
set_option linter.unusedVariables false
theorem l1Own_eq (l : List Int) (h : l.length < 17592186044416) : spec_l1Own.f l = some l := by
  unfold spec_l1Own.f; rw [Option.bind_some, if_pos (by simpa using h)]; rfl
theorem Clone_eq (l : List Int) (h : l.length < 17592186044416) : slices_Clone_int_int.f l = some l := by unfold slices_Clone_int_int.f; rw [if_pos h]
theorem numbered_l0 (n : Nat) (hn : n ≤ 1000) : ∀ (d i : Nat) (acc : List Nat), i + d = n → acc.length = i → Ev (fun k => impl_numbered.l0 k (toI acc) (n : Int) (i : Int)) (toI (acc ++ List.range' i d))
  | 0, i, acc, h, ha => by
    refine Ev.step (fun _ => impl_numbered.l0.eq_2 ..) (ev_neg (by omega) ?_)
    simpa using Ev.now _
  | d + 1, i, acc, h, ha => by
    refine Ev.step (fun _ => impl_numbered.l0.eq_2 ..) (ev_pos (by omega) (ev_pos (by rw [toI_len]; omega) ?_))
    rw [wrap_succ (by omega), ← toI_one, ← toI_app, List.range'_succ]
    have := numbered_l0 n hn d (i + 1) (acc ++ [i]) (by omega) (by simp [ha])
    simpa using this
theorem numbered_ev (n : Nat) (hn : n ≤ 1000) : Ev (fun k => impl_numbered.f k (n : Int)) (toI (List.range n)) := by
  have := numbered_l0 n hn n 0 [] (by omega) rfl
  rw [List.nil_append, ← List.range_eq_range'] at this; exact this
theorem toI_get (p : List Nat) (i : Nat) (h : i < (toI p).length) : (toI p)[i] = ((p[i]'(by simpa using h) : Nat) : Int) := by simp [toI]
theorem reverse_l0 (l : List Int) (hl : l.length ≤ 1000000) : ∀ (d i j : Nat) (x : List Int), i + j + 1 = l.length → j + 1 ≤ i + d → (hx : x.length = l.length) →
    (∀ t (h : t < x.length), x[t] = if t < i ∨ j < t then l[l.length - 1 - t]'(by omega) else l[t]'(by omega)) → Ev (fun k => slices_Reverse_int_int.l0 k x (i : Int) (j : Int)) l.reverse
  | 0, i, j, x, h, hd, hx, ht => by
    refine Ev.step (fun _ => slices_Reverse_int_int.l0.eq_2 ..) (ev_neg (by omega) ?_)
    have e : x = l.reverse := by
      apply List.ext_getElem (by simpa using hx)
      intro t h1 h2
      rw [ht t h1, List.getElem_reverse]
      split
      · rfl
      · congr 1; omega
    rw [e]; exact Ev.now _
  | d + 1, i, j, x, h, hd, hx, ht => by
    by_cases hij : i < j
    · refine Ev.step (fun _ => slices_Reverse_int_int.l0.eq_2 ..) (ev_pos (by omega) (ev_pos (by omega) (ev_pos (by omega) (ev_pos (by omega) (ev_pos (by omega) ?_)))))
      have hi : i < x.length := by omega
      have hj : j < x.length := by omega
      rw [rd_get hi, rd_get hj, wrap_succ (by omega), wrap_id (x := (j : Int) - 1) (by omega) (by omega), show ((j : Int) - 1) = ((j - 1 : Nat) : Int) by omega, Int.toNat_natCast, Int.toNat_natCast]
      refine reverse_l0 l hl d (i + 1) (j - 1) _ (by omega) (by omega) (by simpa using hx) (fun t h1 => ?_)
      have h1' : t < x.length := by simpa using h1
      rw [List.getElem_set, List.getElem_set]
      by_cases c1 : j = t
      · subst c1
        rw [if_pos rfl, if_pos (by omega)]
        refine (ht i hi).trans ?_
        rw [if_neg (by omega)]
        congr 1; omega
      · rw [if_neg c1]
        by_cases c2 : i = t
        · subst c2
          rw [if_pos rfl, if_pos (by omega)]
          refine (ht j hj).trans ?_
          rw [if_neg (by omega)]
          congr 1; omega
        · rw [if_neg c2, ht t h1']
          by_cases c3 : t < i ∨ j < t
          · rw [if_pos c3, if_pos (by omega)]
          · rw [if_neg c3, if_neg (by omega)]
    · refine Ev.step (fun _ => slices_Reverse_int_int.l0.eq_2 ..) (ev_neg (by omega) ?_)
      have e : x = l.reverse := by
        apply List.ext_getElem (by simpa using hx)
        intro t h1 h2
        rw [ht t h1, List.getElem_reverse]
        split
        · rfl
        · congr 1; omega
      rw [e]; exact Ev.now _
theorem reverse_ev (l : List Int) (hl : l.length ≤ 1000000) : Ev (fun k => slices_Reverse_int_int.f k l) l.reverse := by
  unfold slices_Reverse_int_int.f
  cases hn : l with
  | nil => exact Ev.step (fun _ => slices_Reverse_int_int.l0.eq_2 ..) (ev_neg (by simp [wrap64]) (Ev.now _))
  | cons x t =>
    rw [← hn]
    have hp : 0 < l.length := by rw [hn]; simp
    rw [wrap_id (by omega) (by omega), show ((l.length : Int) - 1) = ((l.length - 1 : Nat) : Int) by omega]
    refine reverse_l0 l hl l.length 0 (l.length - 1) l (by omega) (by omega) rfl (fun t h => ?_)
    rw [if_neg (by omega)]
theorem toI_rev (p : List Nat) : (toI p).reverse = toI p.reverse := by simp [toI]
end Go.Proofs.Ytpdgiinedbdamaa.M
end
section
namespace Go.Proofs.Ytpdgiinedbdamaa.M
open Go.RowKit Go.Proofs.YtpdgiinedbdamaaW.PrintWords Go.Proofs.YtpdgiinedbdamaaW.PrintLast Go.Proofs.YtpdgiinedbdamaaW.PrintMore Go.Proofs.Ytpdgiinedbdamaa.L
set_option linter.unusedVariables false
theorem rvGyrate_l0 {p : List Nat} (g : Good p) {s : Nat} (hs : IsId p s) (back : Bool) : ∀ (d r : Nat), r + d = hgh p →
    Ev (fun k => spec_rvGyrate.l0 k (s : Int) back ((parM p 0 r : Nat) : Int) ((parM p 1 r : Nat) : Int) (toI (ranks p)) ((toI (ranks p)).length : Int) (r : Int) (toI p))
      (((if back = true then tgS p (tgS p s (parM p 1 (hgh p))) (parM p 0 (hgh p)) else tgS p (tgS p s (parM p 0 (hgh p))) (parM p 1 (hgh p)) : Nat)) : Int)
  | 0, r, h => by
    refine Ev.step (fun _ => spec_rvGyrate.l0.eq_2 ..) (ev_neg (by rw [toI_len, ranks_len]; omega) ?_)
    obtain rfl : r = hgh p := by omega
    refine ev_ite (fun e => ?_) (fun e => ?_)
    · rw [if_pos e]
      exact Ev.bind (rvAt_ev g _ hs.1) (Ev.bind (rvAt_ev g _ (tgS_lt hs.1)) (Ev.now _))
    · rw [if_neg e]
      exact Ev.bind (rvAt_ev g _ hs.1) (Ev.bind (rvAt_ev g _ (tgS_lt hs.1)) (Ev.now _))
  | d + 1, r, h => by
    have gh := hgh_le g
    have ih := rvGyrate_l0 g hs back d (r + 1) (by omega)
    have hm := g.len63 (mask_lt p r p.length)
    have e0 := g.len63 (parM_lt (p := p) 0 r)
    have e1 := g.len63 (parM_lt (p := p) 1 r)
    have em : Int.tmod (r : Int) 2 = ((r % 2 : Nat) : Int) := by rw [Int.tmod_eq_emod_of_nonneg (by omega)]; omega
    refine Ev.step (fun _ => spec_rvGyrate.l0.eq_2 ..) (ev_pos (by rw [toI_len, ranks_len]; omega) (ev_pos (by omega) (ev_pos (by rw [toI_len, ranks_len]; omega) ?_)))
    rw [ranks_get p (by omega), bits_or e0 hm, bits_or e1 hm, wrap_succ (by omega), em]
    refine ev_ite (fun e => ?_) (fun e => ?_)
    · have h0 : parM p 0 (r + 1) = parM p 0 r ||| mask p r p.length := by rw [parM, if_pos (by omega)]
      have h1 : parM p 1 (r + 1) = parM p 1 r := by rw [parM, if_neg (by omega)]
      rw [h0, h1] at ih; exact ih
    · have h0 : parM p 0 (r + 1) = parM p 0 r := by rw [parM, if_neg (by omega)]
      have h1 : parM p 1 (r + 1) = parM p 1 r ||| mask p r p.length := by rw [parM, if_pos (by omega)]
      rw [h0, h1] at ih; exact ih
theorem rvGyrate_ev {p : List Nat} (g : Good p) {s : Nat} (hs : IsId p s) (back : Bool) : Ev (fun k => spec_rvGyrate.f k (toI p) (s : Int) back)
      (((if back = true then tgS p (tgS p s (parM p 1 (hgh p))) (parM p 0 (hgh p)) else tgS p (tgS p s (parM p 0 (hgh p))) (parM p 1 (hgh p)) : Nat)) : Int) :=
  Ev.bind (specRanks_ev g) (rvGyrate_l0 g hs back (hgh p) 0 (by omega))
def gyW (h : Nat) : List Nat := parW 0 h ++ parW 1 h
def fil (h b x : Nat) : List Nat := (List.range' x (h - x)).filter fun r => decide (r % 2 = b)
theorem fil_step {h b x : Nat} (hb : x % 2 = b) (hx : x < h) : fil h b x = x :: fil h b (x + 2) := by
  unfold fil
  obtain ⟨n, hn⟩ : ∃ n, h - x = n + 1 := ⟨h - x - 1, by omega⟩
  rw [hn, List.range'_succ, List.filter_cons_of_pos (by simpa using hb)]
  congr 1
  cases n with
  | zero => rw [show h - (x + 2) = 0 by omega]; rfl
  | succ m => rw [List.range'_succ, List.filter_cons_of_neg (by simp; omega), show h - (x + 2) = m by omega]
theorem fil_end {h b x : Nat} (hx : h ≤ x) : fil h b x = [] := by unfold fil; rw [show h - x = 0 by omega]; rfl
theorem parW_fil (b : Nat) : ∀ h, parW b h = (List.range h).filter fun r => decide (r % 2 = b)
  | 0 => rfl
  | h + 1 => by
    unfold parW
    rw [List.range_succ, List.filter_append, ← parW_fil b h]
    split
    · rename_i hb; rw [List.filter_cons_of_pos (by simpa using hb)]; rfl
    · rename_i hb; rw [List.filter_cons_of_neg (by simpa using hb)]; simp
theorem parW_0 (h : Nat) : parW 0 h = fil h 0 0 := by rw [parW_fil, List.range_eq_range']; rfl
theorem parW_1 {h : Nat} (hp : 1 ≤ h) : parW 1 h = fil h 1 1 := by
  rw [parW_fil, List.range_eq_range']
  obtain ⟨n, rfl⟩ : ∃ n, h = n + 1 := ⟨h - 1, by omega⟩
  rw [List.range'_succ, List.filter_cons_of_neg (by simp)]; rfl
theorem gy_l1 {p : List Nat} (g : Good p) (b q : Nat) (hq : q < 2) (r : List Int) : ∀ (d x : Nat) (acc : List Nat), hgh p ≤ x + 2 * d → x % 2 = b → x ≤ hgh p + 1 → acc.length + d ≤ 1000 →
    Ev (fun k => impl_Poset_gyration.l0 k (toI (acc ++ fil (hgh p) b x)) [0, 1] (([0, 1] : List Int).length : Int) ((q + 1 : Nat) : Int) (toI p)) r →
    Ev (fun k => impl_Poset_gyration.l1 k (toI acc) (x : Int) [0, 1] (([0, 1] : List Int).length : Int) (q : Int) (toI p)) r
  | d, x, acc, hd, hx, h1, ha, c => by
    have gh := hgh_le g
    refine Ev.step (fun _ => impl_Poset_gyration.l1.eq_2 ..) (Ev.bind (high_ev g) ?_)
    by_cases hc : x < hgh p
    · match d, hd, ha with
      | 0, hd, ha => omega
      | d + 1, hd, ha =>
        refine ev_pos (by omega) (ev_pos (by rw [toI_len]; omega) ?_)
        rw [wrap_id (by omega) (by omega), show (x : Int) + 2 = ((x + 2 : Nat) : Int) by omega, ← toI_one, ← toI_app]
        refine gy_l1 g b q hq r d (x + 2) _ (by omega) (by omega) (by omega) (by simp; omega) ?_
        rw [fil_step hx hc] at c
        rw [List.append_assoc]; exact c
    · refine ev_neg (by omega) ?_
      rw [wrap_succ (by omega)]
      rw [fil_end (by omega), List.append_nil] at c; exact c
theorem gy_ev {p : List Nat} (g : Good p) : Ev (fun k => impl_Poset_gyration.f k (toI p)) (toI (gyW (hgh p))) := by
  have gh := hgh_le g
  refine ev_call rfl ?_
  refine Ev.step (fun _ => impl_Poset_gyration.l0.eq_2 ..) (ev_pos (by decide) (ev_pos (by decide) (ev_pos (by decide) ?_)))
  refine gy_l1 g 0 0 (by decide) _ 10 0 [] (by omega) rfl (by omega) (by simp) ?_
  refine Ev.step (fun _ => impl_Poset_gyration.l0.eq_2 ..) (ev_pos (by decide) (ev_pos (by decide) (ev_pos (by decide) ?_)))
  have hl := parW_len 0 (hgh p)
  rw [parW_0] at hl
  refine gy_l1 g 1 1 (by decide) _ 10 1 _ (by omega) rfl (by omega) (by rw [List.nil_append]; omega) ?_
  refine Ev.step (fun _ => impl_Poset_gyration.l0.eq_2 ..) (ev_neg (by decide) ?_)
  rw [List.nil_append, ← parW_0, ← parW_1 (by omega)]
  exact Ev.now _
theorem gyW_lt {p : List Nat} : ∀ r ∈ gyW (hgh p), r < hgh p := fun r hr => by
  unfold gyW at hr
  rw [List.mem_append] at hr
  rcases hr with h | h <;> exact mem_parW h
theorem gyW_len (h : Nat) : (gyW h).length ≤ 2 * h := by
  have := parW_len 0 h
  have := parW_len 1 h
  unfold gyW; rw [List.length_append]; omega
theorem gy_fold {p : List Nat} (g : Good p) (hr : rankedB p = true) {s : Nat} (hs : IsId p s) : (gyW (hgh p)).foldl (tgR p) s = tgS p (tgS p s (parM p 0 (hgh p))) (parM p 1 (hgh p)) := by
  unfold gyW
  rw [List.foldl_append, ← par_up g hr 0 _ s hs, ← par_up g hr 1 _ _ (tgS_id hs)]
theorem gy_back {p : List Nat} (g : Good p) (hr : rankedB p = true) {s : Nat} (hs : IsId p s) : (gyW (hgh p)).reverse.foldl (tgR p) s = tgS p (tgS p s (parM p 1 (hgh p))) (parM p 0 (hgh p)) := by
  unfold gyW
  rw [List.reverse_append, List.foldl_append, ← par_down g hr 1 _ s hs, ← par_down g hr 0 _ _ (tgS_id hs)]
theorem agree_FnExactGyrateIdeal (l : List Int) (s : Int) (hl : l.length ≤ 1048576) : ∃ r : Int × Bool, Ev (fun k => spec_GyrateIdeal.f k l s) r ∧ Ev (fun k => impl_GyrateIdeal.f k l s) r := by
  by_cases h : rvB l s = true
  · obtain ⟨p, t, rfl, rfl, g, ht, hr⟩ := rvB_of h
    have gh := hgh_le g
    have hv := gyW_len (hgh p)
    refine ⟨((((gyW (hgh p)).foldl (tgR p) t : Nat) : Int), true), ?_, ?_⟩
    · have := rvGyrate_ev g ht false
      rw [if_neg (by simp), ← gy_fold g hr ht] at this
      exact Ev.bind (rvIn_ev _ _) (ev_pos h (Ev.bind this (Ev.now _)))
    · exact Ev.bind (isRankedIdeal_ev _ _) (ev_pos h (Ev.bind (gy_ev g) (Ev.bind (toggleRanks_ev g _ gyW_lt (by omega) ht.1) (Ev.now _))))
  · exact ⟨(0, false), Ev.bind (rvIn_ev _ _) (ev_neg h (Ev.now _)), Ev.bind (isRankedIdeal_ev _ _) (ev_neg h (Ev.now _))⟩
theorem agree_FnExactGyrateBack (l : List Int) (s : Int) (hl : l.length ≤ 1048576) : ∃ r : Int × Bool, Ev (fun k => spec_GyrateBack.f k l s) r ∧ Ev (fun k => impl_GyrateBack.f k l s) r := by
  by_cases h : rvB l s = true
  · obtain ⟨p, t, rfl, rfl, g, ht, hr⟩ := rvB_of h
    have gh := hgh_le g
    have hv := gyW_len (hgh p)
    refine ⟨((((gyW (hgh p)).reverse.foldl (tgR p) t : Nat) : Int), true), ?_, ?_⟩
    · have := rvGyrate_ev g ht true
      rw [if_pos rfl, ← gy_back g hr ht] at this
      exact Ev.bind (rvIn_ev _ _) (ev_pos h (Ev.bind this (Ev.now _)))
    · refine Ev.bind (isRankedIdeal_ev _ _) (ev_pos h (Ev.bind (gy_ev g) ?_))
      have hb : Ev (fun k => impl_backwards.f k (toI (gyW (hgh p)))) (toI (gyW (hgh p)).reverse) := by
        refine ev_call (Clone_eq _ (by rw [toI_len]; omega)) (Ev.bind (reverse_ev _ (by rw [toI_len]; omega)) ?_)
        rw [toI_rev]; exact Ev.now _
      exact Ev.bind hb (Ev.bind (toggleRanks_ev g _ (fun r hr => gyW_lt r (List.mem_reverse.mp hr)) (by rw [List.length_reverse]; omega) ht.1) (Ev.now _))
  · exact ⟨(0, false), Ev.bind (rvIn_ev _ _) (ev_neg h (Ev.now _)), Ev.bind (isRankedIdeal_ev _ _) (ev_neg h (Ev.now _))⟩
end Go.Proofs.Ytpdgiinedbdamaa.M
end
section
namespace Go.Proofs.Ytpdgiinedbdamaa.L
open Go.RowKit Go.Proofs.YtpdgiinedbdamaaW.PrintWords Go.Proofs.YtpdgiinedbdamaaW.PrintLast Go.Proofs.YtpdgiinedbdamaaW.PrintMore
attribute [local go_sem] max2_int min2_int max_two min_two max_three min_three max_four min_four
set_option linter.unusedVariables false
set_option linter.unusedSimpArgs false
def laws_markPoset.f (k : Nat) (l0_0 : List Int) (a1 : Int) : Option (Int × List Int) := (laws_markIntS.f k l0_0 a1).bind fun bt479 => (some (bt479.1, bt479.2))
theorem laws_markPoset.mono : ∀ a0 a1 k, LeO (laws_markPoset.f k a0 a1) (laws_markPoset.f (k + 1) a0 a1) := by
  intro a0 a1 k
  unfold laws_markPoset.f
  repeat' first
      | (with_reducible exact laws_markIntS.mono _ _ _)
      | (with_reducible exact LeO.refl _)
      | (with_reducible exact LeO.none _)
      | (with_reducible refine LeO.ite ?_ ?_)
      | (with_reducible refine LeO.bind ?_ (fun _ => ?_))
      | exact laws_markIntS.mono _ _ _
      | exact LeO.none _
      | refine LeO.ite ?_ ?_
      | refine LeO.bind ?_ (fun _ => ?_)
set_option maxHeartbeats 8000000 in
set_option maxRecDepth 100000 in
theorem laws_markPoset.calls (k : Nat) (P0_0_ : Nat → Prop) (u9000_ : Value) (l0_0 : List Int) (a1 : Int) (r1 : Int) (r2 : List Int) (w0 w : World) (hB : Below w0.heap.size w0 w) (ho0_0 : Kd.R (Kd.int .i64) 3 w w0.heap.size P0_0_ u9000_ l0_0) (h : laws_markPoset.f k l0_0 a1 = some (r1, r2)) :
    Calls Try.prog 24 #[.agg #[u9000_], .int .i64 a1] w fun e w' => e = .returned (.int .i64 r1) ∧ Kd.R (Kd.int .i64) 3 w' w0.heap.size (fun k_ => (P0_0_ k_ ∨ w.heap.size ≤ k_)) u9000_ r2 ∧ Below w0.heap.size w0 w' ∧ Kept w w' (fun k_ => P0_0_ k_) := by
  have hu28 := Try.underlying28
  have HO0_0 := Aside0.mk (show Kd.R (Kd.int .i64) 3 w w0.heap.size (fun k_ => (P0_0_ k_ ∨ w.heap.size ≤ k_)) u9000_ l0_0 from Kd.R_mono ho0_0 (fun k_ hk => (.inl hk)))
  have HK := Aside0.mk (Kept.refl w (fun k_ => P0_0_ k_))
  have HW0 := Aside0.mk hB.size
  have HB := Aside0.mk hB
  clear hB
  have H : ((laws_markIntS.f k l0_0 a1).bind fun bt479 => (some (bt479.1, bt479.2))) = some (r1, r2) := h
  clear h
  replace H := Option.bind_eq_some_iff.mp H
  obtain ⟨⟨t479, t480⟩, A30, H⟩ := H
  replace H : (some (t479, t480)) = some (r1, r2) := H
  have A3 := Aside0.mk A30
  clear A30
  simp only [Option.some.injEq, Prod.mk.injEq] at H
  obtain ⟨rfl, rfl⟩ := H
  obtain ⟨Ao4, co4, eo4⟩ := Kd.R_slice HO0_0.out
  subst eo4
  go_enter Try.func24, Try.ntmps24
  go_wp2_with (first | ((with_reducible refine gate_dst (N := 2) rfl ?_); refine box_event ?hg (N := 2) ?hd (cs := #[.slice Ao4 l0_0.length co4]) (t := 28) ?hr ?_; (case hd => rfl); (case hg => rfl); (case hr => first | (go_simp; done) | (go_simp; rfl)); intro gb478 hg w5 hbox hb; have n0_ := Aside0.mk (Kd.R_below (by (with_reducible repeat (first | apply Kd.R_alloc | apply Kd.R_drewN | apply Kd.R_drew)); exact HO0_0.out) hb); have n1_ := Aside0.mk (Kept.below (S := (fun k_ => P0_0_ k_)) (by repeat (first | (with_reducible first | exact HK.out | apply Kept.alloc | apply Kept.drewN | apply Kept.drew) | exact HK.out)) hb); have n2_ := Aside0.mk (below_step (by repeat (first | (with_reducible first | exact HB.out | apply below_alloc | apply pw_below_drewN | apply below_drew1) | exact HB.out)) hb); have n3_ := Aside0.mk (hbox); have n4_ := Aside0.mk ((by rw [hg]; exact (by first | exact HK.out.1 | exact (show Kept w _ (fun k_ => P0_0_ k_) from by repeat (first | (with_reducible first | exact HK.out | apply Kept.alloc | apply Kept.drewN | apply Kept.drew) | exact HK.out)).1) : w.heap.size ≤ gb478)); have n5_ := Aside0.mk ((by rw [hg]; exact (below_size (by repeat (first | (with_reducible first | exact HB.out | apply below_alloc | apply pw_below_drewN | apply below_drew1) | exact HB.out))) : w0.heap.size ≤ gb478)); clear HO0_0; clear HK; clear HB; have HO0_0 := n0_; have HK := n1_; have HB := n2_; have BK478 := n3_; have GW478 := n4_; have GE478 := n5_; clear n0_ n1_ n2_ n3_ n4_ n5_; clear hb hbox hg; have hcz6_0 : w5.cell? ⟨gb478, 0, none⟩ = some (.slice Ao4 l0_0.length co4) := (blk_cell BK478.out 0).trans rfl; have hfz6_0 := blk_frozen BK478.out 0) | ((with_reducible refine gate_callee (f := 25) rfl ?_); refine goesL_ (some 8) rfl rfl Try.func25 (by kernel_rfl) rfl #[.slice Ao4 l0_0.length co4, .int .i64 a1] rfl (by (try simp only [List.map_toArray, List.map_cons, List.map_nil]); first | done | rfl | (simp only [List.length_drop, List.length_take]; rfl)) ?_; (with_reducible refine (laws_markIntS.calls k (fun k_ => some k_ = (.slice Ao4 l0_0.length co4 : Value).ownBlock) (.slice Ao4 l0_0.length co4) l0_0 a1 t479 t480 w0 _ ?side1 ?side2 A3.out).mono ?_); (case side1 => repeat (first | (with_reducible first | exact HB.out | apply below_alloc | apply pw_below_drewN | apply below_drew1 | refine below_set ?_ GE478.out) | exact HB.out)); (case side2 => exact Kd.R_tight rfl HO0_0.out); rintro e w7 ⟨rfl, hy0, hb, hkp⟩; refine ⟨_, rfl, ?_⟩; have n0_ := Aside0.mk (Kd.R_reok rfl hy0 (fun k_ e_ => HO0_0.out.1 k_ e_)); have n1_ := Aside0.mk (blk_kept (by (with_reducible repeat (first | refine blk_drewN ?_ _ | refine blk_drew ?_ | refine blk_alloc ?_ _)); exact BK478.out) hkp (fun hs_ => (fun e_ => (Kd.R_ne HO0_0.out BK478.out (by decide)) e_) hs_)); have n2_ := Aside0.mk (Kept.then_ (S := (fun k_ => P0_0_ k_)) (by repeat (first | (with_reducible first | exact HK.out | apply Kept.alloc | apply Kept.drewN | apply Kept.drew | refine Kept.setCell ?_ (.inr GW478.out) _) | exact HK.out)) hkp (fun k_ hs_ => (fun e_ => (HO0_0.out.1 k_ e_.symm)) hs_)); have n3_ := Aside0.mk (hb); clear HO0_0; clear BK478; clear HK; clear HB; have HO0_0 := n0_; have BK478 := n1_; have HK := n2_; have HB := n3_; clear n0_ n1_ n2_ n3_; (try clear hb); (try clear hkp); (try clear hy0)))
  go_ret
  exact ⟨by first | rfl | (simp [errW_none, errW_some] <;> rfl) | (simp [*, errW_none, errW_some] <;> rfl), by (with_reducible repeat (first | apply Kd.R_alloc | apply Kd.R_drewN | apply Kd.R_drew)); exact HO0_0.out, by repeat (first | (with_reducible first | exact HB.out | apply below_alloc | apply pw_below_drewN | apply below_drew1 | refine below_set ?_ GE478.out) | exact HB.out), by repeat (first | (with_reducible first | exact HK.out | apply Kept.alloc | apply Kept.drewN | apply Kept.drew | refine Kept.setCell ?_ (.inr GW478.out) _) | exact HK.out)⟩
end Go.Proofs.Ytpdgiinedbdamaa.L
end
section
namespace Go.Proofs.Ytpdgiinedbdamaa.M
open Go.RowKit Go.Proofs.YtpdgiinedbdamaaW.PrintWords Go.Proofs.YtpdgiinedbdamaaW.PrintLast Go.Proofs.YtpdgiinedbdamaaW.PrintMore Go.Proofs.Ytpdgiinedbdamaa.L
theorem szIntS_eq (l : List Int) (h : l.length ≤ maxLen) : laws_szIntS.f l 1048576 = some (if 1048576 < l.length then -1 else 1048576 - (l.length : Int)) := by
  unfold maxLen at h
  unfold laws_szIntS.f
  rw [wrap_id (by omega) (by omega)]
  by_cases h2 : 1048576 < l.length
  · rw [if_pos (by omega), if_pos h2]
  · rw [if_neg (by omega), if_neg h2]
theorem szPoset_eq (l : List Int) (h : l.length ≤ maxLen) : laws_szPoset.f l 1048576 = some (if 1048576 < l.length then -1 else 1048576 - (l.length : Int)) := by
  unfold laws_szPoset.f
  rw [szIntS_eq l h, Option.bind_some]
  split
  · rfl
  · rw [if_neg (by omega)]
theorem toPoset_ev (l : List Int) (hl : l.length ≤ 35184372088832) : Ev (fun k => laws_toPoset.f k l) l := Ev.bind (toIntS_ev l hl) (Ev.now _)
theorem eqPoset_ev (a b : List Int) (hl : a.length ≤ 9223372036854775806) : Ev (fun k => laws_eqPoset.f k a b) (decide (a = b)) := by
  refine Ev.bind (eqIntS_ev a b hl) (ev_ite (fun e => ?_) (fun e => ?_))
  · rw [e]; exact Ev.now _
  · rw [Bool.eq_false_iff.mpr e]; exact Ev.now _
theorem eqPoset_refl (a : List Int) (hl : a.length ≤ 9223372036854775806) : Ev (fun k => laws_eqPoset.f k a a) true := by simpa using eqPoset_ev a a hl
theorem eqIntS_refl (a : List Int) (hl : a.length ≤ 9223372036854775806) : Ev (fun k => laws_eqIntS.f k a a) true := by simpa using eqIntS_ev a a hl
theorem markPoset_ev (l : List Int) (q : Nat) (hl : l.length ≤ 4611686018427387903) (hq : q ≤ 4611686018427387903) : Ev (fun k => laws_markPoset.f k l (q : Int)) (((q + l.length : Nat) : Int), marks q l.length) := Ev.bind (markIntS_ev l q hl hq) (Ev.now _)
end Go.Proofs.Ytpdgiinedbdamaa.M
end
section
namespace Go.Proofs.Ytpdgiinedbdamaa.Pure
open Go.RowKit Go.Proofs.YtpdgiinedbdamaaW.PrintWords Go.Proofs.YtpdgiinedbdamaaW.PrintLast Go.Proofs.YtpdgiinedbdamaaW.PrintMore Go.Proofs.Ytpdgiinedbdamaa.L Go.Proofs.Ytpdgiinedbdamaa.M
theorem FnExactGyrateBack : laws_FnExactGyrateBack.Pure2 := by
  intro l0 a1 hm0 hw0 w1
  refine Ev.rounds ?_
  refine ev_call (szPoset_eq l0 hm0) ?_
  by_cases b0 : 1048576 < l0.length
  · rw [if_pos b0]; exact ev_pos (by decide) (Ev.now _)
  rw [if_neg b0]
  refine ev_neg (by omega) ?_
  have T0 := toPoset_ev l0 (by omega)
  have E0 := eqPoset_refl l0 (by omega)
  have M0 := markPoset_ev l0 (1) (by omega) (by omega)
  obtain ⟨r, hs, hi⟩ := agree_FnExactGyrateBack l0 a1 (by omega)
  repeat' first
    | with_reducible exact Ev.now true
    | with_reducible refine Ev.bind hs ?_
    | with_reducible refine Ev.bind hi ?_
    | with_reducible refine Ev.bind T0 ?_
    | with_reducible refine Ev.bind E0 ?_
    | with_reducible refine Ev.bind M0 ?_
    | with_reducible refine Ev.step (fun _ => laws_FnExactGyrateBack.j0.eq_2 ..) ?_
    | with_reducible refine ev_pos rfl ?_
    | (with_reducible refine ev_neg ?h ?_; case h => first | (simp; done) | omega | (simp only; omega) | (simp; omega))
end Go.Proofs.Ytpdgiinedbdamaa.Pure
end
section
namespace Go.Proofs.Ytpdgiinedbdamaa.R
open Go.ChangeShapes Go.WideShapes Go.ChangeAt Go.RowKit
open Go.ChangeMaps (open_string shut_string)
set_option linter.unusedVariables false
def IsRow (k : IntKind) (w : World) (a : Option Addr) (len cap : Nat) (zs : List Int) : Prop :=
  (a = none ∧ len = 0 ∧ cap = 0 ∧ zs = []) ∨
  ∃ x, a = some x ∧ len ≤ cap ∧ cap ≤ maxLen ∧ zs.length = cap ∧ (∀ i, i < zs.length → w.cell? (x.add i) = some (.int k (zs.getD i 0))) ∧ ∀ n ∈ zs, (Lit.int k n).wf = true
variable {H : Type} {enc : TypeId × Value → H} {P : Program} {W : World} {base : Nat} {ps : List MemPlace}
theorem row_of {t e : TypeId} {k : IntKind} {fuel : Nat} {c : Value} {y : DataW H × List MemPlace} (hu : P.underlying t = some (.slice e)) (he : P.underlying e = some (.int k)) (hc : P.cellsOf e = 1)
    (hf : DataW.trod enc P W 0 (fun _ => true) true fuel t [c] = some y) : ∃ a len cap zs, c = .slice a len cap ∧ IsRow k W a len cap zs := by
  rcases open_ints hu he hc hf with ⟨hcs, _⟩ | ⟨x, l, c', zs, hcs, _, hl, hm, hz, _, hcell, hwz⟩
  · simp only [List.cons.injEq, and_true] at hcs
    subst hcs
    exact ⟨_, _, _, [], rfl, .inl ⟨rfl, rfl, rfl, rfl⟩⟩
  · simp only [List.cons.injEq, and_true] at hcs
    subst hcs
    exact ⟨_, _, _, zs, rfl, .inr ⟨_, rfl, hl, hm, by simpa using hz, hcell, hwz⟩⟩
theorem array1 {α : Type} {cs : Array α} (h : cs.size = 1) : ∃ c0, cs = #[c0] := by
  obtain ⟨l⟩ := cs
  match l, h with
  | [c0], _ => exact ⟨c0, rfl⟩
theorem open_poset {r : Reach} {t e : TypeId} {f : Field} {v : Value} {d : DataW H} (hs : P.underlying t = some (.struct #[f])) (ho : f.offset = 0) (hC : P.cellsOf t = 1) (hfc : P.cellsOf f.type = 1) (hu : P.underlying f.type = some (.slice e)) (he : P.underlying e = some (.int .i64)) (hc : P.cellsOf e = 1)
    (hv : Value.okWide P W r base t v) (h : DataW.Trod enc P W 0 (fun _ => true) true t v d ps) : ∃ a len cap zs, v = .agg #[.slice a len cap] ∧ IsRow .i64 W a len cap zs := by
  obtain ⟨cs, rfl, hsz⟩ := okWide_struct hs hv
  obtain ⟨c0, rfl⟩ := array1 (hsz.trans hC)
  obtain ⟨fuel, hf⟩ := h
  obtain ⟨y0, n, _, _, h0⟩ := trod_struct1 hs hf
  rw [ho, hfc] at h0
  obtain ⟨a, len, cap, zs, rfl, hz⟩ := row_of hu he hc (by simpa [Value.cells] using h0)
  exact ⟨a, len, cap, zs, rfl, hz⟩
theorem open_desk {r : Reach} {t e : TypeId} {f f1 g : Field} {v : Value} {d : DataW H} (hs : P.underlying t = some (.struct #[f, f1])) (ho : f.offset = 0) (ho1 : f1.offset = 1) (hC : P.cellsOf t = 2) (hfc : P.cellsOf f.type = 1) (hfc1 : P.cellsOf f1.type = 1)
    (hs2 : P.underlying f.type = some (.struct #[g])) (hgo : g.offset = 0) (hgc : P.cellsOf g.type = 1) (hu : P.underlying g.type = some (.slice e)) (he : P.underlying e = some (.int .i64)) (hc : P.cellsOf e = 1) (hi : P.underlying f1.type = some (.int .i64))
    (hv : Value.okWide P W r base t v) (h : DataW.Trod enc P W 0 (fun _ => true) true t v d ps) : ∃ a len cap zs x, v = .agg #[.slice a len cap, .int .i64 x] ∧ IsRow .i64 W a len cap zs ∧ (Lit.int .i64 x).wf = true := by
  obtain ⟨cs, rfl, hsz⟩ := okWide_struct hs hv
  obtain ⟨c0, c1, rfl⟩ := Joins.array2 (hsz.trans hC)
  obtain ⟨fuel, hf⟩ := h
  obtain ⟨y0, y1, n, _, _, h0, h1⟩ := trod_struct2 hs hf
  rw [ho, hfc] at h0
  rw [ho1, hfc1] at h1
  obtain ⟨z0, m, _, _, h00⟩ := trod_struct1 hs2 h0
  rw [hgo, hgc] at h00
  obtain ⟨a, len, cap, zs, rfl, hz⟩ := row_of hu he hc (by simpa [Value.cells] using h00)
  obtain ⟨x, e0, e1, wx⟩ := DataW.trod_int hi h1
  simp [Value.cells] at e0
  subst e0
  exact ⟨a, len, cap, zs, x, rfl, hz, wx⟩
end Go.Proofs.Ytpdgiinedbdamaa.R
end
