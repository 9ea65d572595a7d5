/- Laws about the given program: the law FnExactMirrorArray answers true for every input that its row lets in; no condition is added to the given statement. Contracts of the Go functions that it reaches, and the plain proof over lists. -/
import Derived.Below
import Derived.ChangeOld
import Derived.Lib.SmallJoins
import Derived.OpenShut
import Derived.ProofKit
import Derived.ShutString
import Derived.SizedLaws
import Derived.Test.YtioibkdjcmkcpaaRows
import Derived.WalkKit
import Derived.Test.YtioibkdjcmkcpaaW0
import Derived.Test.YtioibkdjcmkcpaaW1
import Derived.Test.YtioibkdjcmkcpaaKFnExactMirrorArray0
import Derived.Test.YtioibkdjcmkcpaaKFnExactMirrorArray1
import Derived.Test.YtioibkdjcmkcpaaKFnExactMirrorArray2
import Derived.Test.YtioibkdjcmkcpaaKFnExactMirrorArray3
import Derived.Test.YtioibkdjcmkcpaaKFnExactMirrorArray4
section
namespace Go.Proofs.Ytioibkdjcmkcpaa.L
open Go.RowKit Go.Proofs.YtioibkdjcmkcpaaW.PrintWords Go.Proofs.YtioibkdjcmkcpaaW.PrintLast Go.Proofs.YtioibkdjcmkcpaaW.PrintMore
attribute [local go_sem] max2_int min2_int max_two min_two max_three min_three max_four min_four
set_option linter.unusedVariables false
set_option linter.unusedSimpArgs false
open Go.Proofs.Ytioibkdjcmkcpaa.X in
set_option maxHeartbeats 400000 in
set_option maxRecDepth 100000 in
theorem slices_IndexFunc.calls (A0 : Option Addr) (c0 : Nat) (l0 : List Int) (g : Nat) (lb : Array Value) (p : Int → Bool) (w : World) (eg : ∀ args w, (callFunc g args).run Try.prog w = .ok (.enter g args) w)
    (hr0 : Kd.C (Kd.int .i64) w A0 l0.length l0) (hl : l0.length ≤ 9223372036854775806) (hp : ∀ x, x ∈ l0 → Fv Try.prog g lb #[.int .i64 x] (.bool (p x)) w) :
    Calls Try.prog 133 #[.slice A0 l0.length c0, .func (.func g) #[] lb] w fun e w' => e = .returned (.int .i64 (idxOf p l0)) ∧ Below w.heap.size w w' := by
  have HR0 := Aside0.mk hr0
  have HP := Aside0.mk hp
  clear hr0 hp
  go_enter Try.func133, Try.ntmps133
  go_wp2
  go_loopw [8] (fun v8 wr => ∃ k : Nat, k ≤ l0.length ∧ v8 = .int .i64 k ∧ Aside0 (idxOf p l0 = idxFrom p (l0.drop k) k) ∧ Aside0 (Below w.heap.size w wr)) (fun v8 _ => l0.length - (intOf v8).toNat)
  case atStart => exact ⟨0, Nat.zero_le _, rfl, ⟨rfl⟩, ⟨Below.refl _ _⟩⟩
  case round =>
    obtain ⟨k, hk, rfl, HI, HB⟩ := hrel
    by_cases hlt : k < l0.length
    · have hdrop : l0.drop k = l0[k] :: l0.drop (k + 1) := (List.drop_eq_getElem_cons hlt)
      have hrd : rd l0 (k : Int) = l0[k] := by simp [rd, List.getD_eq_getElem?_getD, hlt]
      have hmem : l0[k] ∈ l0 := List.getElem_mem hlt
      have hfv := HP.out _ hmem
      rw [← hrd] at hfv
      have hI3 := Aside0.mk (show idxOf p l0 = if p (rd l0 (k : Int)) then (k : Int) else idxFrom p (l0.drop (k + 1)) (k + 1) by rw [hrd, HI.out, hdrop, idxFrom])
      have HF := Aside0.mk hfv
      clear hfv hdrop hrd HI hmem
      have p1 : 0 ≤ ((k : Nat) : Int) := by omega
      have q1 : ((k : Nat) : Int) < (l0.length : Int) := by omega
      obtain ⟨ad, e1, hx⟩ := Kd.at_int (Kd.C_below HR0.out HB.out) k p1 q1
      rw [Int.toNat_natCast] at hx
      cases e1
      by_cases hp : p (rd l0 (k : Int)) = true
      all_goals
        have hP := Aside0.mk hp
        go_wp2_with (go_at_fn g; (with_reducible refine (Fv.calls HF.out HB.out).mono ?_); rintro e w2 ⟨rfl, hb⟩)
        first | go_ret | go_roundw
      · exact ⟨by rw [hI3.out, if_pos hP.out]; rfl, below_to HB.out hb⟩
      case rel => exact ⟨k + 1, by omega, by go_num, ⟨by rw [hI3.out, if_neg hP.out]⟩, ⟨below_to HB.out hb⟩⟩
      case measure => simp [intOf]; omega
    · go_wp2
      go_ret
      exact ⟨by rw [HI.out, List.drop_of_length_le (by omega)]; rfl, HB.out⟩
end Go.Proofs.Ytioibkdjcmkcpaa.L
end
section
namespace Go.Proofs.Ytioibkdjcmkcpaa.L
open Go.RowKit Go.Proofs.YtioibkdjcmkcpaaW.PrintWords Go.Proofs.YtioibkdjcmkcpaaW.PrintLast Go.Proofs.YtioibkdjcmkcpaaW.PrintMore
attribute [local go_sem] max2_int min2_int max_two min_two max_three min_three max_four min_four
set_option linter.unusedVariables false
set_option linter.unusedSimpArgs false
open Go.Proofs.Ytioibkdjcmkcpaa.X in
set_option maxHeartbeats 400000 in
set_option maxRecDepth 100000 in
theorem slices_ContainsFunc.calls (A0 : Option Addr) (c0 : Nat) (l0 : List Int) (g : Nat) (lb : Array Value) (p : Int → Bool) (w : World) (eg : ∀ args w, (callFunc g args).run Try.prog w = .ok (.enter g args) w)
    (hr0 : Kd.C (Kd.int .i64) w A0 l0.length l0) (hl : l0.length ≤ 9223372036854775806) (hp : ∀ x, x ∈ l0 → Fv Try.prog g lb #[.int .i64 x] (.bool (p x)) w) :
    Calls Try.prog 123 #[.slice A0 l0.length c0, .func (.func g) #[] lb] w fun e w' => e = .returned (.bool (l0.any p)) ∧ Below w.heap.size w w' := by
  have EG := Aside0.mk eg
  have HR0 := Aside0.mk hr0
  have HP := Aside0.mk hp
  clear hr0 hp eg
  go_enter Try.func123, Try.ntmps123
  go_wp2_with (go_at_call 133; (with_reducible refine (slices_IndexFunc.calls _ _ l0 g lb p _ EG.out HR0.out hl HP.out).mono ?_); rintro e w2 ⟨rfl, hb⟩)
  go_ret
  refine ⟨?_, hb⟩
  have := idxFrom_any p l0 0
  unfold idxOf
  by_cases h : l0.any p = true
  · rw [h] at this ⊢; simp [this.mpr rfl]
  · have h2 : ¬ (0 ≤ idxFrom p l0 0) := fun z => h (this.mp z)
    simp [Bool.eq_false_iff.mpr h, h2]
end Go.Proofs.Ytioibkdjcmkcpaa.L
end
section
namespace Go.Proofs.Ytioibkdjcmkcpaa.L
open Go.RowKit Go.Proofs.YtioibkdjcmkcpaaW.PrintWords Go.Proofs.YtioibkdjcmkcpaaW.PrintLast Go.Proofs.YtioibkdjcmkcpaaW.PrintMore
attribute [local go_sem] max2_int min2_int max_two min_two max_three min_three max_four min_four
set_option linter.unusedVariables false
set_option linter.unusedSimpArgs false
def impl_areUpTo.p (m n : Int) : Bool := !(decide (0 ≤ n) && decide (n ≤ m))
def impl_areUpTo.f (l0 : List Int) (a1 : Int) : Option (Bool) := if l0.length ≤ 9223372036854775806 then some (!(l0.any (impl_areUpTo.p a1))) else none
open Go.Proofs.Ytioibkdjcmkcpaa.X in
set_option maxHeartbeats 400000 in
theorem impl_areUpTo.lit (n m : Int) (B : Nat) (w : World) (hB : B < w.heap.size) (hc : w.cell? ⟨B, 0, none⟩ = some (.int .i64 m)) :
    Fv Try.prog 124 #[.pointer (some ⟨B, 0, none⟩)] #[.int .i64 n] (.bool (impl_areUpTo.p m n)) w := by
  intro W hb
  have hc' : W.cell? ⟨B, 0, none⟩ = some (.int .i64 m) := (hb.cell (p := ⟨B, 0, none⟩) hB).trans hc
  obtain ⟨b, HW, hp⟩ : ∃ b, impl_within.f n 0 m = some b ∧ impl_areUpTo.p m n = !b := ⟨decide (0 ≤ n) && decide (n ≤ m), by unfold impl_within.f; by_cases h : 0 ≤ n <;> simp [h], rfl⟩
  rw [hp]
  have HA := Aside0.mk HW
  clear HW hp
  go_enter Try.func124, Try.ntmps124
  go_wp2_with (go_at_call 59; (with_reducible refine (impl_within.calls n 0 m b _ HA.out).mono ?_); rintro e w' ⟨rfl, ⟨nd, rfl⟩⟩)
  go_ret
  exact ⟨rfl, pw_below_drewN (Below.refl _ _) _⟩
open Go.Proofs.Ytioibkdjcmkcpaa.X in
set_option maxHeartbeats 400000 in
theorem impl_areUpTo.calls (A0 : Option Addr) (c0 : Nat) (l0 : List Int) (a1 : Int) (r : Bool) (w : World) (hr0 : Kd.C (Kd.int .i64) w A0 l0.length l0) (hc0 : l0.length ≤ c0) (h : impl_areUpTo.f l0 a1 = some r) :
    Calls Try.prog 103 #[.slice A0 l0.length c0, .int .i64 a1] w fun e w' => e = .returned (.bool r) ∧ Below w.heap.size w w' := by
  unfold impl_areUpTo.f at h
  split at h
  · rename_i hl
    obtain rfl := Option.some.inj h
    clear h
    have HR0 := Aside0.mk hr0
    have HL := Aside0.mk hl
    clear hr0 hl hc0
    have hC := Aside0.mk fun (W : World) (hB : w.heap.size < W.heap.size) (hcw : Kd.C (Kd.int .i64) W A0 l0.length l0) (hc : W.cell? ⟨w.heap.size, 0, none⟩ = some (.int .i64 a1)) =>
      slices_ContainsFunc.calls A0 c0 l0 124 #[.pointer (some ⟨w.heap.size, 0, none⟩)] (impl_areUpTo.p a1) W (enters_ Try.func124 (by kernel_rfl) rfl) hcw HL.out (fun x _ => impl_areUpTo.lit x a1 _ W hB hc)
    go_enter Try.func103, Try.ntmps103
    go_wp2_with (go_at_call 123; refine (hC.out _ (by simp) (Kd.C_alloc HR0.out _) (by simp)).mono ?_; rintro e w' ⟨rfl, hb⟩)
    go_ret
    exact ⟨rfl, ((Below.refl _ w).alloc (Nat.le_refl _) _).trans (hb.mono (by simp))⟩
  · exact absurd h (by simp)
end Go.Proofs.Ytioibkdjcmkcpaa.L
end
section
namespace Go.Proofs.Ytioibkdjcmkcpaa.M
open Go.RowKit Go.Proofs.YtioibkdjcmkcpaaW.PrintWords Go.Proofs.YtioibkdjcmkcpaaW.PrintLast Go.Proofs.YtioibkdjcmkcpaaW.PrintMore Go.Proofs.Ytioibkdjcmkcpaa.L
theorem toIntS_l0 (l : List Int) (hl : l.length ≤ 35184372088832) : ∀ (d i : Nat) (acc : List Int), i + d = l.length → acc.length = l.length → Ev (fun k => laws_toIntS.l0 k l acc i) (acc.take i ++ l.drop i)
  | 0, i, acc, h, ha => by
    have h1 : ¬ ((i : Int) < (l.length : Int)) := by omega
    refine Ev.step (fun _ => rfl) (ev_neg h1 ?_)
    rw [List.take_of_length_le (by omega), List.drop_of_length_le (by omega), List.append_nil]
    exact Ev.now _
  | d + 1, i, acc, h, ha => by
    have h1 : (i : Int) < (l.length : Int) := by omega
    refine Ev.step (fun _ => rfl) (ev_pos h1 (ev_pos (by omega) (ev_pos (by omega) ?_)))
    rw [wrap_succ (by omega), rd_get (by omega : i < l.length), Int.toNat_natCast]
    have ih := toIntS_l0 l hl d (i + 1) (acc.set i l[i]) (by omega) (by simp [ha])
    have e : (acc.set i l[i]).take (i + 1) ++ l.drop (i + 1) = acc.take i ++ l.drop i := by
      rw [List.take_succ_eq_append_getElem (by simp; omega), List.getElem_set_self, List.drop_eq_getElem_cons (by omega : i < l.length)]
      simp [List.take_set_of_le]
    rw [← e]; exact ih
theorem toIntS_ev (l : List Int) (hl : l.length ≤ 35184372088832) : Ev (fun k => laws_toIntS.f k l) l := by
  have h := toIntS_l0 l hl l.length 0 (List.replicate l.length 0) (by omega) (by simp)
  exact ev_pos (by omega) (ev_pos (by simpa using hl) (by simpa using h))
theorem eqIntS_l0 (a b : List Int) (hl : a.length ≤ 9223372036854775806) (hab : a.length = b.length) : ∀ (d i : Nat), i + d = a.length → Ev (fun k => laws_eqIntS.l0 k a b i) (decide (a.drop i = b.drop i))
  | 0, i, h => by
    have h1 : ¬ ((i : Int) < (a.length : Int)) := by omega
    refine Ev.step (fun _ => rfl) (ev_neg h1 ?_)
    rw [List.drop_of_length_le (by omega), List.drop_of_length_le (by omega)]
    exact Ev.now _
  | d + 1, i, h => by
    have h1 : (i : Int) < (a.length : Int) := by omega
    refine Ev.step (fun _ => rfl) (ev_pos h1 (ev_pos (by omega) (ev_pos (by omega) ?_)))
    rw [wrap_succ (by omega), rd_get (by omega : i < a.length), rd_get (by omega : i < b.length)]
    rw [List.drop_eq_getElem_cons (by omega : i < a.length), List.drop_eq_getElem_cons (by omega : i < b.length)]
    refine ev_ite (fun e => ?_) (fun e => ?_)
    · rw [decide_eq_decide.mpr (show (a[i] :: a.drop (i + 1) = b[i] :: b.drop (i + 1)) ↔ a.drop (i + 1) = b.drop (i + 1) by rw [List.cons.injEq]; exact ⟨fun z => z.2, fun z => ⟨e, z⟩⟩)]
      exact eqIntS_l0 a b hl hab d (i + 1) (by omega)
    · rw [decide_eq_false (show ¬ (a[i] :: a.drop (i + 1) = b[i] :: b.drop (i + 1)) by rw [List.cons.injEq]; exact fun z => e z.1)]
      exact Ev.now false
theorem eqIntS_ev (a b : List Int) (hl : a.length ≤ 9223372036854775806) : Ev (fun k => laws_eqIntS.f k a b) (decide (a = b)) := by
  refine ev_ite (fun e => ?_) (fun e => ?_)
  · simpa using eqIntS_l0 a b hl (by omega) a.length 0 (by omega)
  · have : ¬ a = b := fun z => e (by rw [z])
    simpa [this] using Ev.now false
def marks (q : Nat) (n : Nat) : List Int := (List.range' q n).map Int.ofNat
theorem marks_len (q n : Nat) : (marks q n).length = n := by simp [marks]
theorem marks_get (q n i : Nat) (h : i < (marks q n).length) : (marks q n)[i] = ((q + i : Nat) : Int) := by simp [marks]
theorem markIntS_l0 (n : Nat) (hn : n ≤ 4611686018427387903) (q : Nat) (hq : q ≤ 4611686018427387903) : ∀ (d i : Nat) (acc : List Int), i + d = n → acc.length = n → (∀ j (hj : j < acc.length), j < i → acc[j] = ((q + j : Nat) : Int)) →
    Ev (fun k => laws_markIntS.l0 k acc ((q + i : Nat) : Int) i) (((q + n : Nat) : Int), marks q n)
  | 0, i, acc, h, ha, hm => by
    have h1 : ¬ ((i : Int) < (acc.length : Int)) := by omega
    refine Ev.step (fun _ => rfl) (ev_neg h1 ?_)
    have e : acc = marks q n := List.ext_getElem (by rw [ha, marks_len]) (fun j h1 h2 => by rw [hm j h1 (by omega), marks_get])
    have e2 : i = n := by omega
    rw [e, e2]; exact Ev.now _
  | d + 1, i, acc, h, ha, hm => by
    have h1 : (i : Int) < (acc.length : Int) := by omega
    refine Ev.step (fun _ => rfl) (ev_pos h1 (ev_pos (by omega) ?_))
    rw [wrap_succ (by omega), wrap_succ (by omega), Int.toNat_natCast]
    refine markIntS_l0 n hn q hq d (i + 1) (acc.set i ((q + i : Nat) : Int)) (by omega) (by simp [ha]) (fun j hj hji => ?_)
    by_cases e : j = i
    · subst e; simp
    · rw [List.getElem_set_ne (by omega)]; exact hm j _ (by omega)
theorem markIntS_ev (l : List Int) (q : Nat) (hl : l.length ≤ 4611686018427387903) (hq : q ≤ 4611686018427387903) : Ev (fun k => laws_markIntS.f k l (q : Int)) (((q + l.length : Nat) : Int), marks q l.length) :=
  markIntS_l0 l.length hl q hq l.length 0 l (by omega) rfl (fun j _ h => by omega)
theorem heldIntS_l0 (q n : Nat) (hn : n ≤ 4611686018427387903) (hq : q ≤ 4611686018427387903) : ∀ (d i : Nat), i + d = n → Ev (fun k => laws_heldIntS.l0 k (marks q n) ((q + i : Nat) : Int) i) ((q + n : Nat) : Int)
  | 0, i, h => by
    have hm := marks_len q n
    have h1 : ¬ ((i : Int) < ((marks q n).length : Int)) := by omega
    refine Ev.step (fun _ => rfl) (ev_neg h1 ?_)
    have e2 : i = n := by omega
    rw [e2]; exact Ev.now _
  | d + 1, i, h => by
    have hm := marks_len q n
    have h1 : (i : Int) < ((marks q n).length : Int) := by omega
    refine Ev.step (fun _ => rfl) (ev_pos h1 (ev_pos (by omega) (ev_pos ?_ ?_)))
    · rw [rd_get (by omega), marks_get]
    · rw [wrap_succ (by omega), wrap_succ (by omega)]
      exact heldIntS_l0 q n hn hq d (i + 1) (by omega)
theorem heldIntS_ev (q n : Nat) (hn : n ≤ 4611686018427387903) (hq : q ≤ 4611686018427387903) : Ev (fun k => laws_heldIntS.f k (marks q n) (q : Int)) ((q + n : Nat) : Int) :=
  heldIntS_l0 q n hn hq n 0 (by omega)
end Go.Proofs.Ytioibkdjcmkcpaa.M
end
section
namespace Go.Proofs.Ytioibkdjcmkcpaa.M
open Go.RowKit Go.Proofs.YtioibkdjcmkcpaaW.PrintWords Go.Proofs.YtioibkdjcmkcpaaW.PrintLast Go.Proofs.YtioibkdjcmkcpaaW.PrintMore Go.Proofs.Ytioibkdjcmkcpaa.L
theorem l1In_eq (x lo hi : Int) : spec_l1In.f x lo hi = some (inB x lo hi) := by
  unfold spec_l1In.f inB
  by_cases h : lo ≤ x <;> simp [h]
theorem within_eq (x lo hi : Int) : impl_within.f x lo hi = some (inB x lo hi) := by
  unfold impl_within.f inB
  by_cases h : lo ≤ x <;> simp [h]
theorem l1All_l0 (l : List Int) (lo hi : Int) (hl : l.length ≤ 9223372036854775806) : ∀ (d i : Nat), i + d = l.length → Ev (fun k => spec_l1All.l0 k lo hi l (l.length : Int) i) ((l.drop i).all (inB · lo hi))
  | 0, i, h => by
    refine Ev.step (fun _ => rfl) (ev_neg (by omega) ?_)
    rw [List.drop_of_length_le (by omega)]; exact Ev.now _
  | d + 1, i, h => by
    refine Ev.step (fun _ => rfl) (ev_pos (by omega) (ev_pos (by omega) (ev_pos (by omega) (ev_call (l1In_eq _ _ _) ?_))))
    rw [rd_get (by omega : i < l.length), wrap_succ (by omega), List.drop_eq_getElem_cons (by omega : i < l.length), List.all_cons]
    refine ev_ite (fun e => ?_) (fun e => ?_)
    · rw [e, Bool.true_and]; exact l1All_l0 l lo hi hl d (i + 1) (by omega)
    · rw [Bool.eq_false_iff.mpr e, Bool.false_and]; exact Ev.now _
theorem l1All_ev (l : List Int) (lo hi : Int) (hl : l.length ≤ 9223372036854775806) : Ev (fun k => spec_l1All.f k l lo hi) (l.all (inB · lo hi)) := l1All_l0 l lo hi hl l.length 0 (by omega)
theorem areUpTo_eq (l : List Int) (m : Int) (hl : l.length ≤ 9223372036854775806) : impl_areUpTo.f l m = some (l.all (inB · 0 m)) := by
  unfold impl_areUpTo.f
  rw [if_pos hl]
  congr 1
  rw [Bool.eq_iff_iff]
  simp [impl_areUpTo.p, inB]
theorem isTurn_eq (n : Int) : impl_isTurn.f n = some (inB n 1 60) := by simp [impl_isTurn.f, within_eq]
end Go.Proofs.Ytioibkdjcmkcpaa.M
end
section
namespace Go.Proofs.Ytioibkdjcmkcpaa.M
open Go.RowKit Go.Proofs.YtioibkdjcmkcpaaW.PrintWords Go.Proofs.YtioibkdjcmkcpaaW.PrintLast Go.Proofs.YtioibkdjcmkcpaaW.PrintMore Go.Proofs.Ytioibkdjcmkcpaa.L
set_option linter.unusedVariables false
theorem has_eq {s e : Nat} (hs : s < 2 ^ 63) (he : e ≤ 64) : impl_has.f (s : Int) (e : Int) = some (s.testBit e) := by
  unfold impl_has.f; rw [if_pos (by omega), bit_and hs he]
theorem poIn_eq {s e : Nat} (he : e ≤ 64) : spec_poIn.f (s : Int) (e : Int) = some (s.testBit e) := by
  unfold spec_poIn.f; rw [if_pos (by omega), bit_mod he]
theorem items_l0 (s : Nat) (hs : s < 2 ^ 63) : ∀ (d i : Nat) (acc : List Nat), i + d = 10 → acc.length ≤ i → Ev (fun k => impl_items.l0 k (s : Int) (toI acc) (i : Int)) (toI (acc ++ (List.range' i d).filter fun e => s.testBit e))
  | 0, i, acc, h, ha => by
    refine Ev.step (fun _ => impl_items.l0.eq_2 ..) (ev_neg (by omega) ?_)
    simpa using Ev.now _
  | d + 1, i, acc, h, ha => by
    refine Ev.step (fun _ => impl_items.l0.eq_2 ..) (ev_pos (by omega) (ev_call (has_eq hs (by omega)) ?_))
    rw [wrap_succ (by omega), List.range'_succ]
    refine ev_ite (fun e => ev_pos (by rw [toI_len]; omega) ?_) (fun e => ?_)
    · rw [← toI_one, ← toI_app, List.filter_cons_of_pos e]
      have := items_l0 s hs d (i + 1) (acc ++ [i]) (by omega) (by simp; omega)
      simpa using this
    · rw [List.filter_cons_of_neg e]
      exact items_l0 s hs d (i + 1) acc (by omega) (by omega)
theorem items_ev {s : Nat} (hs : s < 2 ^ 63) : Ev (fun k => impl_items.f k (s : Int)) (toI (items s)) := by
  have h := items_l0 s hs 10 0 [] (by omega) (by simp)
  rw [List.nil_append, ← List.range_eq_range'] at h
  exact h
theorem n_eq (l : List Int) : impl_Poset_n.f l = some (l.length : Int) := rfl
theorem all_eq {p : List Nat} (h : p.length ≤ 10) : impl_Poset_all.f (toI p) = some ((full p : Nat) : Int) := by
  unfold impl_Poset_all.f
  rw [n_eq, Option.bind_some, if_pos (by omega), toI_len, shl_one' (by omega)]; rfl
theorem items_all {m i : Nat} (hm : m < 2 ^ i) (hi : i ≤ 10) (g : Nat → Bool) : (items m).all g = (List.range i).all fun j => !(m.testBit j) || g j := by
  rw [Bool.eq_iff_iff]
  simp only [List.all_eq_true, mem_items, List.mem_range, Bool.or_eq_true, Bool.not_eq_true']
  constructor
  · intro h j hj
    cases hb : m.testBit j
    · exact .inl rfl
    · exact .inr (h j ⟨by omega, hb⟩)
  · rintro h j ⟨_, hb⟩
    rcases h j (bit_lt hm hb) with h2 | h2
    · rw [hb] at h2; cases h2
    · exact h2
theorem pow_small {i : Nat} (h : i ≤ 10) : 2 ^ i ≤ 1024 := by
  have := Nat.pow_le_pow_right (n := 2) (by decide) h
  simpa using this
theorem rd_getD (l : List Int) (i : Nat) : rd l (i : Int) = l.getD i 0 := by simp [rd]
theorem isPoset_l1 (l : List Int) (i m : Nat) (R : Bool) (hl : l.length ≤ 10) (hi : i < l.length) (hm : m < 2 ^ i) (ok : ∀ j, j < i → ∃ a : Nat, l.getD j 0 = (a : Int) ∧ a < 2 ^ j)
    (hR : Ev (fun k => impl_IsPoset.l0 k l (l.length : Int) ((i + 1 : Nat) : Int) l) R) : ∀ (d q : Nat), q + d = (items m).length →
    Ev (fun k => impl_IsPoset.l1 k (m : Int) l (l.length : Int) (i : Int) (toI (items m)) ((toI (items m)).length : Int) (q : Int) l) (((items m).drop q).all (fun j => sd (l.getD j 0).toNat m == 0) && R)
  | 0, q, h => by
    refine Ev.step (fun _ => impl_IsPoset.l1.eq_2 ..) (ev_neg (by rw [toI_len]; omega) ?_)
    rw [List.drop_of_length_le (by omega), List.all_nil, Bool.true_and, wrap_succ (by omega)]
    exact hR
  | d + 1, q, h => by
    have hq : q < (items m).length := by omega
    have hj : (items m)[q] ∈ items m := List.getElem_mem hq
    obtain ⟨_, hb⟩ := mem_items.mp hj
    have hji := bit_lt hm hb
    obtain ⟨a, ha, ha2⟩ := ok _ hji
    have e1 : rd (toI (items m)) (q : Int) = (((items m)[q] : Nat) : Int) := by rw [rd_toI]; simp [List.getD_eq_getElem?_getD, hq]
    have hlen := items_len m
    have hp1 := pow_small (show i ≤ 10 by omega)
    have hp2 := pow_small (show (items m)[q] ≤ 10 by omega)
    refine Ev.step (fun _ => impl_IsPoset.l1.eq_2 ..) ?_
    rw [e1]
    refine ev_pos (by rw [toI_len]; omega) (ev_pos (by omega) (ev_pos (by rw [toI_len]; omega) (ev_pos (by omega) (ev_pos (by omega) ?_))))
    rw [rd_getD, ha, bits_andNot (lt63 ha2 (by omega)) (lt63 hm (by omega)), wrap_succ (by omega), List.drop_eq_getElem_cons hq, List.all_cons, ha, Int.toNat_natCast]
    refine ev_ite (fun e => ?_) (fun e => ?_)
    · have e' : sd a m = 0 := by omega
      rw [e', beq_self_eq_true, Bool.true_and]
      exact isPoset_l1 l i m R hl hi hm ok hR d (q + 1) (by omega)
    · have e' : (sd a m == 0) = false := by rw [beq_eq_false_iff_ne]; omega
      rw [e', Bool.false_and, Bool.false_and]
      exact Ev.now _
theorem isPoset_l0 (l : List Int) (hl : l.length ≤ 10) : ∀ (d i : Nat), i + d = l.length → (∀ j, j < i → ∃ a : Nat, l.getD j 0 = (a : Int) ∧ a < 2 ^ j) →
    Ev (fun k => impl_IsPoset.l0 k l (l.length : Int) (i : Int) l) ((List.range' i d).all (okAt l))
  | 0, i, h, ok => by
    refine Ev.step (fun _ => impl_IsPoset.l0.eq_2 ..) (ev_neg (by omega) ?_)
    exact Ev.now _
  | d + 1, i, h, ok => by
    have hp1 := pow_small (show i ≤ 10 by omega)
    have hpos := Nat.two_pow_pos i
    refine Ev.step (fun _ => impl_IsPoset.l0.eq_2 ..) (ev_pos (by omega) (ev_pos (by omega) (ev_pos (by omega) (ev_call (within_eq _ _ _) ?_))))
    rw [rd_getD, shl_one' (by omega), List.range'_succ, List.all_cons, okAt_def l i]
    refine ev_ite (fun e => ?_) (fun e => ?_)
    · have b := inB_iff.mp e
      obtain ⟨m, hm⟩ : ∃ m : Nat, l.getD i 0 = (m : Int) := ⟨(l.getD i 0).toNat, by omega⟩
      rw [e, Bool.true_and, hm]
      have hm2 : m < 2 ^ i := by omega
      refine Ev.bind (items_ev (lt63 hm2 (by omega))) ?_
      have hnx := isPoset_l0 l hl d (i + 1) (by omega) (fun j hj => by
        by_cases hji : j = i
        · subst hji; exact ⟨m, hm, hm2⟩
        · exact ok j (by omega))
      have := isPoset_l1 l i m _ hl (by omega) hm2 ok hnx (items m).length 0 (by omega)
      rw [List.drop_zero, items_all hm2 (by omega)] at this
      simpa using this
    · rw [Bool.eq_false_iff.mpr e, Bool.false_and, Bool.false_and]
      exact Ev.now _
theorem isPoset_ev (l : List Int) : Ev (fun k => impl_IsPoset.f k l) (goodB l) := by
  refine ev_call (n_eq l) (ev_call (within_eq _ _ _) ?_)
  unfold goodB
  refine ev_ite (fun e => ?_) (fun e => ?_)
  · have b := inB_iff.mp e
    rw [e, Bool.true_and]
    exact isPoset_l0 l (by omega) l.length 0 (by omega) (fun j hj => by omega)
  · rw [Bool.eq_false_iff.mpr e, Bool.false_and]; exact Ev.now _
theorem poGood_l1 (l : List Int) (i m : Nat) (R : Bool) (hl : l.length ≤ 10) (hi : i < l.length) (hm : m < 2 ^ i) (ok : ∀ j, j < i → ∃ a : Nat, l.getD j 0 = (a : Int) ∧ a < 2 ^ j)
    (hR : Ev (fun k => spec_poGood.l0 k l (l.length : Int) ((i + 1 : Nat) : Int) l) R) : ∀ (d j : Nat), j + d = i →
    Ev (fun k => spec_poGood.l1 k (i : Int) (m : Int) (j : Int) l (l.length : Int) (i : Int) l) ((List.range' j d).all (fun j => !(m.testBit j) || sd (l.getD j 0).toNat m == 0) && R)
  | 0, j, h => by
    refine Ev.step (fun _ => spec_poGood.l1.eq_2 ..) (ev_neg (by omega) ?_)
    rw [wrap_succ (by omega)]
    simpa using hR
  | d + 1, j, h => by
    obtain ⟨a, ha, ha2⟩ := ok j (by omega)
    have hp1 := pow_small (show i ≤ 10 by omega)
    have hp2 := pow_small (show j ≤ 10 by omega)
    have ih := poGood_l1 l i m R hl hi hm ok hR d (j + 1) (by omega)
    refine Ev.step (fun _ => spec_poGood.l1.eq_2 ..) (ev_pos (by omega) (ev_pos (by omega) ?_))
    rw [wrap_succ (by omega), List.range'_succ, List.all_cons, rd_getD, ha, bits_andNot (lt63 ha2 (by omega)) (lt63 hm (by omega)), Int.toNat_natCast]
    refine ev_ite (fun e => ?_) (fun e => ?_)
    · rw [bit_mod' (by omega)] at e
      rw [e, Bool.not_true, Bool.false_or]
      refine ev_pos (by omega) (ev_ite (fun e => ?_) (fun e => ?_))
      · have e' : sd a m = 0 := by omega
        rw [e', beq_self_eq_true, Bool.true_and]; exact ih
      · have e' : (sd a m == 0) = false := by rw [beq_eq_false_iff_ne]; omega
        rw [e', Bool.false_and, Bool.false_and]; exact Ev.now _
    · rw [bit_mod' (by omega)] at e
      rw [Bool.eq_false_iff.mpr e, Bool.not_false, Bool.true_or, Bool.true_and]; exact ih
theorem poGood_l0 (l : List Int) (hl : l.length ≤ 10) : ∀ (d i : Nat), i + d = l.length → (∀ j, j < i → ∃ a : Nat, l.getD j 0 = (a : Int) ∧ a < 2 ^ j) →
    Ev (fun k => spec_poGood.l0 k l (l.length : Int) (i : Int) l) ((List.range' i d).all (okAt l))
  | 0, i, h, ok => by
    refine Ev.step (fun _ => spec_poGood.l0.eq_2 ..) (ev_neg (by omega) ?_)
    exact Ev.now _
  | d + 1, i, h, ok => by
    have hp1 := pow_small (show i ≤ 10 by omega)
    have hpos := Nat.two_pow_pos i
    refine Ev.step (fun _ => spec_poGood.l0.eq_2 ..) (ev_pos (by omega) (ev_pos (by omega) (ev_pos (by omega) (ev_call (l1In_eq _ _ _) ?_))))
    rw [rd_getD, shl_one' (by omega), List.range'_succ, List.all_cons, okAt_def l i]
    refine ev_ite (fun e => ?_) (fun e => ?_)
    · have b := inB_iff.mp e
      obtain ⟨m, hm⟩ : ∃ m : Nat, l.getD i 0 = (m : Int) := ⟨(l.getD i 0).toNat, by omega⟩
      rw [e, Bool.true_and, hm]
      have hm2 : m < 2 ^ i := by omega
      have hnx := poGood_l0 l hl d (i + 1) (by omega) (fun j hj => by
        by_cases hji : j = i
        · subst hji; exact ⟨m, hm, hm2⟩
        · exact ok j (by omega))
      have := poGood_l1 l i m _ hl (by omega) hm2 ok hnx i 0 (by omega)
      simpa [List.range_eq_range'] using this
    · rw [Bool.eq_false_iff.mpr e, Bool.false_and, Bool.false_and]
      exact Ev.now _
theorem poGood_ev (l : List Int) : Ev (fun k => spec_poGood.f k l) (goodB l) := by
  refine ev_call (l1In_eq _ _ _) ?_
  unfold goodB
  refine ev_ite (fun e => ?_) (fun e => ?_)
  · have b := inB_iff.mp e
    rw [e, Bool.true_and]
    exact poGood_l0 l (by omega) l.length 0 (by omega) (fun j hj => by omega)
  · rw [Bool.eq_false_iff.mpr e, Bool.false_and]; exact Ev.now _
end Go.Proofs.Ytioibkdjcmkcpaa.M
end
section
namespace Go.Proofs.Ytioibkdjcmkcpaa.M
open Go.RowKit Go.Proofs.YtioibkdjcmkcpaaW.PrintWords Go.Proofs.YtioibkdjcmkcpaaW.PrintLast Go.Proofs.YtioibkdjcmkcpaaW.PrintMore Go.Proofs.Ytioibkdjcmkcpaa.L
set_option linter.unusedVariables false
def setB (l : List Int) (s : Int) : Bool := goodB l && inB s 0 ((2 ^ l.length - 1 : Nat) : Int)
def idB (l : List Int) (s : Int) : Bool := setB l s && idealB (l.map Int.toNat) s.toNat
theorem setB_of {l : List Int} {s : Int} (h : setB l s = true) : ∃ (p : List Nat) (t : Nat), l = toI p ∧ s = (t : Int) ∧ Good p ∧ t < 2 ^ p.length := by
  simp only [setB, Bool.and_eq_true, inB_iff] at h
  obtain ⟨p, rfl, g⟩ := goodB_of h.1
  have := Nat.two_pow_pos p.length
  rw [toI_len] at h
  exact ⟨p, s.toNat, rfl, by omega, g, by omega⟩
theorem toNat_toI (p : List Nat) : (toI p).map Int.toNat = p := by
  simp only [toI, List.map_map]
  exact (List.map_congr_left (fun x _ => by simp)).trans (List.map_id p)
theorem idB_of {l : List Int} {s : Int} (h : idB l s = true) : ∃ (p : List Nat) (t : Nat), l = toI p ∧ s = (t : Int) ∧ Good p ∧ IsId p t := by
  simp only [idB, Bool.and_eq_true] at h
  obtain ⟨p, t, rfl, rfl, g, ht⟩ := setB_of h.1
  have h2 := h.2
  rw [toNat_toI, Int.toNat_natCast] at h2
  exact ⟨p, t, rfl, rfl, g, (idealB_iff ht).mp h2⟩
theorem setB_mk {p : List Nat} {t : Nat} (g : Good p) (ht : t < 2 ^ p.length) : setB (toI p) (t : Int) = true := by
  simp only [setB, Bool.and_eq_true, inB_iff, toI_len]
  exact ⟨goodB_toI g, by omega, by omega⟩
theorem idB_mk {p : List Nat} {t : Nat} (g : Good p) (ht : IsId p t) : idB (toI p) (t : Int) = true := by
  simp only [idB, Bool.and_eq_true]
  refine ⟨setB_mk g ht.1, ?_⟩
  rw [toNat_toI, Int.toNat_natCast]; exact (idealB_iff ht.1).mpr ht
theorem Good.len63 {p : List Nat} (g : Good p) {s : Nat} (h : s < 2 ^ p.length) : s < 2 ^ 63 := M.lt63 h (by have := g.le; omega)
theorem isSet_ev (l : List Int) (s : Int) : Ev (fun k => impl_isSet.f k l s) (setB l s) := by
  refine Ev.bind (isPoset_ev l) ?_
  unfold setB
  refine ev_ite (fun e => ?_) (fun e => ?_)
  · obtain ⟨p, rfl, g⟩ := goodB_of e
    rw [e, Bool.true_and, toI_len]
    exact ev_call (all_eq g.le) (ev_call (within_eq _ _ _) (Ev.now _))
  · rw [Bool.eq_false_iff.mpr e, Bool.false_and]; exact Ev.now _
theorem items_get {m q : Nat} (hq : q < (items m).length) : (items m)[q] < 10 ∧ m.testBit (items m)[q] = true := mem_items.mp (List.getElem_mem hq)
theorem rd_items {m q : Nat} (hq : q < (items m).length) : rd (toI (items m)) (q : Int) = (((items m)[q] : Nat) : Int) := by rw [rd_toI]; simp [List.getD_eq_getElem?_getD, hq]
theorem close_l0 {p : List Nat} (g : Good p) (s : Nat) (hs : s < 2 ^ p.length) : ∀ (d q a : Nat), q + d = (items s).length → a < 2 ^ p.length →
    Ev (fun k => impl_Poset_close.l0 k (a : Int) (toI (items s)) ((toI (items s)).length : Int) (q : Int) (toI p)) (((((items s).drop q).foldl (fun o e => o ||| less p e) a : Nat)) : Int)
  | 0, q, a, h, ha => by
    refine Ev.step (fun _ => impl_Poset_close.l0.eq_2 ..) (ev_neg (by rw [toI_len]; omega) ?_)
    rw [List.drop_of_length_le (by omega)]; exact Ev.now _
  | d + 1, q, a, h, ha => by
    have hq : q < (items s).length := by omega
    have hm := items_get hq
    have hb := bit_lt hs hm.2
    have hl := items_len s
    refine Ev.step (fun _ => impl_Poset_close.l0.eq_2 ..) ?_
    rw [rd_items hq, toI_len, toI_len]
    refine ev_pos (by omega) (ev_pos (by omega) (ev_pos (by omega) (ev_pos (by omega) (ev_pos (by omega) ?_))))
    rw [rd_less, bits_or (g.len63 ha) (g.lt63 _), wrap_succ (by omega), List.drop_eq_getElem_cons hq, List.foldl_cons, ← toI_len]
    exact close_l0 g s hs d (q + 1) _ (by omega) (Nat.or_lt_two_pow ha (g.lt10 _))
theorem close_ev {p : List Nat} (g : Good p) {s : Nat} (hs : s < 2 ^ p.length) : Ev (fun k => impl_Poset_close.f k (toI p) (s : Int)) ((close p s : Nat) : Int) := by
  refine Ev.bind (items_ev (g.len63 hs)) ?_
  have h := close_l0 g s hs (items s).length 0 s (by omega) hs
  rw [List.drop_zero, foldl_items_n _ _ hs g.le] at h
  exact h
theorem isIdeal_ev (l : List Int) (s : Int) : Ev (fun k => impl_isIdeal.f k l s) (idB l s) := by
  refine Ev.bind (isSet_ev l s) ?_
  unfold idB
  refine ev_ite (fun e => ?_) (fun e => ?_)
  · obtain ⟨p, t, rfl, rfl, g, ht⟩ := setB_of e
    rw [e, Bool.true_and, toNat_toI, Int.toNat_natCast, ← close_beq ht]
    refine Ev.bind (close_ev g ht) ?_
    have : (((close p t : Nat) : Int) == (t : Int)) = (close p t == t) := by
      rw [Bool.eq_iff_iff, beq_iff_eq, beq_iff_eq]; omega
    rw [this]; exact Ev.now _
  · rw [Bool.eq_false_iff.mpr e, Bool.false_and]; exact Ev.now _
theorem poSet_eq (p : List Nat) (s : Int) (h : p.length ≤ 10) : spec_poSet.f (toI p) s = some (inB s 0 ((2 ^ p.length - 1 : Nat) : Int)) := by
  unfold spec_poSet.f; rw [toI_len, shl_one' (by omega), l1In_eq]; rfl
theorem poIdeal_l0 {p : List Nat} (g : Good p) (s : Nat) (hs : s < 2 ^ p.length) : ∀ (d i : Nat), i + d = p.length →
    Ev (fun k => spec_poIdeal.l0 k (s : Int) (toI p) ((toI p).length : Int) (i : Int)) ((List.range' i d).all fun e => !(s.testBit e) || sd (less p e) s == 0)
  | 0, i, h => by
    refine Ev.step (fun _ => spec_poIdeal.l0.eq_2 ..) (ev_neg (by rw [toI_len]; omega) (Ev.now _))
  | d + 1, i, h => by
    have := g.le
    have ih := poIdeal_l0 g s hs d (i + 1) (by omega)
    refine Ev.step (fun _ => spec_poIdeal.l0.eq_2 ..) ?_
    refine ev_pos (by rw [toI_len]; omega) (ev_pos (by omega) (ev_pos (by rw [toI_len]; omega) (ev_call (poIn_eq (by omega)) ?_)))
    rw [rd_less, bits_andNot (g.lt63 _) (g.len63 hs), wrap_succ (by omega), List.range'_succ, List.all_cons]
    refine ev_ite (fun e => ?_) (fun e => ?_)
    · rw [e, Bool.not_true, Bool.false_or]
      refine ev_ite (fun e => ?_) (fun e => ?_)
      · have e' : sd (less p i) s = 0 := by omega
        rw [e', beq_self_eq_true, Bool.true_and]; exact ih
      · have e' : (sd (less p i) s == 0) = false := by rw [beq_eq_false_iff_ne]; omega
        rw [e', Bool.false_and]; exact Ev.now _
    · rw [Bool.eq_false_iff.mpr e, Bool.not_false, Bool.true_or, Bool.true_and]; exact ih
theorem poIdeal_ev {p : List Nat} (g : Good p) {s : Nat} (hs : s < 2 ^ p.length) : Ev (fun k => spec_poIdeal.f k (toI p) (s : Int)) (idealB p s) := poIdeal_l0 g s hs p.length 0 (by omega)
theorem tgIn_ev (l : List Int) (s : Int) : Ev (fun k => spec_tgIn.f k l s) (idB l s) := by
  refine Ev.bind (poGood_ev l) ?_
  unfold idB setB
  refine ev_ite (fun e => ?_) (fun e => ?_)
  · obtain ⟨p, rfl, g⟩ := goodB_of e
    rw [e, Bool.true_and, toI_len, toNat_toI]
    refine ev_call (poSet_eq p s g.le) (ev_ite (fun e => ?_) (fun e => ?_))
    · have b := inB_iff.mp e
      have := Nat.two_pow_pos p.length
      obtain ⟨t, rfl⟩ : ∃ t : Nat, s = (t : Int) := ⟨s.toNat, by omega⟩
      rw [e, Bool.true_and, Int.toNat_natCast]
      exact Ev.bind (poIdeal_ev g (by omega)) (Ev.now _)
    · rw [Bool.eq_false_iff.mpr e, Bool.false_and]; exact Ev.now _
  · rw [Bool.eq_false_iff.mpr e, Bool.false_and, Bool.false_and]; exact Ev.now _
end Go.Proofs.Ytioibkdjcmkcpaa.M
end
section
namespace Go.Proofs.Ytioibkdjcmkcpaa.M
open Go.RowKit Go.Proofs.YtioibkdjcmkcpaaW.PrintWords Go.Proofs.YtioibkdjcmkcpaaW.PrintLast Go.Proofs.YtioibkdjcmkcpaaW.PrintMore Go.Proofs.Ytioibkdjcmkcpaa.L
set_option linter.unusedVariables false
def riseAt (p : List Nat) (x : List Int) (i : Nat) : Bool := (List.range i).all fun j => !((less p i).testBit j) || decide (x.getD j 0 ≤ x.getD i 0)
def arrB (p : List Nat) (x : List Int) (b : Int) : Bool := x.all (inB · 0 b) && (List.range' 0 p.length).all (riseAt p x)
structure Arr (p y : List Nat) (b : Nat) : Prop where
  len : y.length = p.length
  hi : ∀ i, y.getD i 0 ≤ b
  up : ∀ i j, (less p i).testBit j = true → y.getD j 0 ≤ y.getD i 0
theorem toI_of_all {x : List Int} {b : Int} (h : x.all (inB · 0 b) = true) : x = toI (x.map Int.toNat) := by
  simp only [List.all_eq_true, inB_iff] at h
  simp only [toI, List.map_map]
  conv => lhs; rw [← List.map_id x]
  apply List.map_congr_left
  intro a ha
  have := h a ha
  simp; omega
theorem toI_getD (y : List Nat) (i : Nat) : (toI y).getD i 0 = ((y.getD i 0 : Nat) : Int) := by
  have := rd_toI y i
  simpa [rd] using this
theorem getD_mem {y : List Nat} {i : Nat} (h : i < y.length) : y.getD i 0 ∈ y := by
  rw [List.getD_eq_getElem?_getD, List.getElem?_eq_getElem h]; exact List.getElem_mem h
theorem arrB_of {p : List Nat} {x : List Int} {b : Nat} (g : Good p) (hl : x.length = p.length) (h : arrB p x (b : Int) = true) : ∃ y, x = toI y ∧ Arr p y b := by
  simp only [arrB, Bool.and_eq_true] at h
  have e := toI_of_all h.1
  refine ⟨x.map Int.toNat, e, by simpa using hl, fun i => ?_, fun i j hj => ?_⟩
  · have h1 := h.1
    simp only [List.all_eq_true, inB_iff] at h1
    by_cases hi : i < (x.map Int.toNat).length
    · obtain ⟨a, ha, e2⟩ := List.mem_map.mp (getD_mem hi)
      have := h1 a ha
      omega
    · rw [List.getD_eq_getElem?_getD, List.getElem?_eq_none (by omega)]; simp
  · have hb := g.bit hj
    have h2 := h.2
    simp only [List.all_eq_true, List.mem_range'_1, riseAt, List.mem_range, Bool.or_eq_true, Bool.not_eq_true', decide_eq_true_eq] at h2
    rcases h2 i ⟨by omega, by omega⟩ j hb.1 with h3 | h3
    · rw [hj] at h3; cases h3
    · rw [e, toI_getD, toI_getD] at h3; omega
theorem arrB_mk {p y : List Nat} {b : Nat} (h : Arr p y b) : arrB p (toI y) (b : Int) = true := by
  simp only [arrB, Bool.and_eq_true, List.all_eq_true, List.mem_range'_1, riseAt, List.mem_range, Bool.or_eq_true, Bool.not_eq_true', decide_eq_true_eq, inB_iff, toI_getD]
  refine ⟨fun a ha => ?_, fun i hi j hj => ?_⟩
  · obtain ⟨n, hn, rfl⟩ := List.mem_map.mp ha
    obtain ⟨i, hi, rfl⟩ := List.mem_iff_getElem.mp hn
    have := h.hi i
    rw [List.getD_eq_getElem?_getD, List.getElem?_eq_getElem hi] at this
    simp at this
    exact ⟨by omega, by omega⟩
  · cases hb : (less p i).testBit j
    · exact .inl rfl
    · exact .inr (by have := h.up i j hb; omega)
def arrayB (l x : List Int) (b : Int) : Bool := goodB l && inB b 0 20 && decide (x.length = l.length) && arrB (l.map Int.toNat) x b
theorem arrayB_of {l x : List Int} {b : Int} (h : arrayB l x b = true) : ∃ (p y : List Nat) (c : Nat), l = toI p ∧ x = toI y ∧ b = (c : Int) ∧ Good p ∧ c ≤ 20 ∧ Arr p y c := by
  simp only [arrayB, Bool.and_eq_true, decide_eq_true_eq, inB_iff] at h
  obtain ⟨⟨⟨h1, h2⟩, h3⟩, h4⟩ := h
  obtain ⟨p, rfl, g⟩ := goodB_of h1
  obtain ⟨c, rfl⟩ : ∃ c : Nat, b = (c : Int) := ⟨b.toNat, by omega⟩
  rw [toNat_toI] at h4
  obtain ⟨y, rfl, ha⟩ := arrB_of g (by simpa using h3) h4
  exact ⟨p, y, c, rfl, rfl, rfl, g, by omega, ha⟩
theorem arrayB_mk {p y : List Nat} {b : Nat} (g : Good p) (hb : b ≤ 20) (h : Arr p y b) : arrayB (toI p) (toI y) (b : Int) = true := by
  simp only [arrayB, Bool.and_eq_true, decide_eq_true_eq, inB_iff]
  refine ⟨⟨⟨goodB_toI g, by omega, by omega⟩, by simpa using h.len⟩, ?_⟩
  rw [toNat_toI]; exact arrB_mk h
theorem pcBound_eq (b : Int) : spec_pcBound.f b = some (inB b 0 20) := by simp [spec_pcBound.f, l1In_eq]
theorem isHigh_ev (l : List Int) (b : Int) : Ev (fun k => impl_isHigh.f k l b) (goodB l && inB b 0 20) := by
  refine Ev.bind (isPoset_ev l) (ev_ite (fun e => ?_) (fun e => ?_))
  · rw [e, Bool.true_and]; exact ev_call (within_eq _ _ _) (Ev.now _)
  · rw [Bool.eq_false_iff.mpr e, Bool.false_and]; exact Ev.now _
theorem pcRises_l1 {p : List Nat} (g : Good p) (x : List Int) (hx : x.length = p.length) (i : Nat) (hi : i < p.length) (R : Bool) (hR : Ev (fun k => spec_pcRises.l0 k x (toI p) ((toI p).length : Int) ((i + 1 : Nat) : Int)) R) : ∀ (d j : Nat), j + d = i →
    Ev (fun k => spec_pcRises.l1 k x (i : Int) ((less p i : Nat) : Int) (j : Int) (toI p) ((toI p).length : Int) (i : Int)) ((List.range' j d).all (fun j => !((less p i).testBit j) || decide (x.getD j 0 ≤ x.getD i 0)) && R)
  | 0, j, h => by
    refine Ev.step (fun _ => spec_pcRises.l1.eq_2 ..) (ev_neg (by omega) ?_)
    rw [wrap_succ (by have := g.le; omega)]; simpa using hR
  | d + 1, j, h => by
    have gl := g.le
    have ih := pcRises_l1 g x hx i hi R hR d (j + 1) (by omega)
    refine Ev.step (fun _ => spec_pcRises.l1.eq_2 ..) (ev_pos (by omega) (ev_call (poIn_eq (by omega)) ?_))
    rw [wrap_succ (by omega), List.range'_succ, List.all_cons, rd_getD, rd_getD]
    refine ev_ite (fun e => ?_) (fun e => ?_)
    · rw [e, Bool.not_true, Bool.false_or]
      refine ev_pos (by omega) (ev_pos (by omega) (ev_pos (by omega) (ev_pos (by omega) (ev_ite (fun e => ?_) (fun e => ?_)))))
      · rw [decide_eq_false (by omega), Bool.false_and, Bool.false_and]; exact Ev.now _
      · rw [decide_eq_true (by omega), Bool.true_and]; exact ih
    · rw [Bool.eq_false_iff.mpr e, Bool.not_false, Bool.true_or, Bool.true_and]; exact ih
theorem pcRises_l0 {p : List Nat} (g : Good p) (x : List Int) (hx : x.length = p.length) : ∀ (d i : Nat), i + d = p.length →
    Ev (fun k => spec_pcRises.l0 k x (toI p) ((toI p).length : Int) (i : Int)) ((List.range' i d).all (riseAt p x))
  | 0, i, h => Ev.step (fun _ => spec_pcRises.l0.eq_2 ..) (ev_neg (by rw [toI_len]; omega) (Ev.now _))
  | d + 1, i, h => by
    refine Ev.step (fun _ => spec_pcRises.l0.eq_2 ..) (ev_pos (by rw [toI_len]; omega) (ev_pos (by omega) (ev_pos (by rw [toI_len]; omega) ?_)))
    rw [rd_less, List.range'_succ, List.all_cons]
    have := pcRises_l1 g x hx i (by omega) _ (pcRises_l0 g x hx d (i + 1) (by omega)) i 0 (by omega)
    rw [← List.range_eq_range'] at this
    exact this
theorem pcRises_ev {p : List Nat} (g : Good p) (x : List Int) (b : Int) (hx : x.length = p.length) : Ev (fun k => spec_pcRises.f k (toI p) x b) (arrB p x b) := by
  refine Ev.bind (l1All_ev x 0 b (by have := g.le; omega)) ?_
  unfold arrB
  refine ev_ite (fun e => ?_) (fun e => ?_)
  · rw [e, Bool.true_and]; exact pcRises_l0 g x hx p.length 0 (by omega)
  · rw [Bool.eq_false_iff.mpr e, Bool.false_and]; exact Ev.now _
theorem areLabels_l1 {p : List Nat} (g : Good p) (x : List Int) (b : Nat) (hb : b ≤ 1000) (hx : x.length = p.length) (i : Nat) (hi : i < p.length) (ok : ∀ j, j < i → inB (x.getD j 0) 0 (b : Int) = true) (R : Bool)
    (hR : Ev (fun k => impl_Poset_areLabels.l0 k x (b : Int) 0 x (x.length : Int) ((i + 1 : Nat) : Int) (toI p)) R) : ∀ (d q : Nat), q + d = (items (less p i)).length →
    Ev (fun k => impl_Poset_areLabels.l1 k x (b : Int) 0 (x.getD i 0) x (x.length : Int) (i : Int) (toI (items (less p i))) ((toI (items (less p i))).length : Int) (q : Int) (toI p)) (((items (less p i)).drop q).all (fun j => decide (x.getD j 0 ≤ x.getD i 0)) && R)
  | 0, q, h => by
    refine Ev.step (fun _ => impl_Poset_areLabels.l1.eq_2 ..) (ev_neg (by rw [toI_len]; omega) ?_)
    rw [List.drop_of_length_le (by omega), wrap_succ (by have := g.le; omega)]; simpa using hR
  | d + 1, q, h => by
    have hq : q < (items (less p i)).length := by omega
    have hm := items_get hq
    have hj := g.bit hm.2
    have gl := g.le
    have hl := items_len (less p i)
    have ok' := inB_iff.mp (ok _ hj.1)
    have ih := areLabels_l1 g x b hb hx i hi ok R hR d (q + 1) (by omega)
    refine Ev.step (fun _ => impl_Poset_areLabels.l1.eq_2 ..) ?_
    rw [rd_items hq, rd_getD, wrap_succ (by omega), Int.add_zero, wrap_id (by omega) (by omega), List.drop_eq_getElem_cons hq, List.all_cons]
    refine ev_pos (by rw [toI_len]; omega) (ev_pos (by omega) (ev_pos (by rw [toI_len]; omega) (ev_pos (by omega) (ev_pos (by omega) (ev_ite (fun e => ?_) (fun e => ?_))))))
    · rw [decide_eq_false (by omega), Bool.false_and, Bool.false_and]; exact Ev.now _
    · rw [decide_eq_true (by omega), Bool.true_and]; exact ih
theorem areLabels_l0 {p : List Nat} (g : Good p) (x : List Int) (b : Nat) (hb : b ≤ 1000) (hx : x.length = p.length) : ∀ (d i : Nat), i + d = p.length → (∀ j, j < i → inB (x.getD j 0) 0 (b : Int) = true) →
    Ev (fun k => impl_Poset_areLabels.l0 k x (b : Int) 0 x (x.length : Int) (i : Int) (toI p)) ((List.range' i d).all (fun i => inB (x.getD i 0) 0 (b : Int) && riseAt p x i))
  | 0, i, h, ok => Ev.step (fun _ => impl_Poset_areLabels.l0.eq_2 ..) (ev_neg (by omega) (Ev.now _))
  | d + 1, i, h, ok => by
    have gl := g.le
    refine Ev.step (fun _ => impl_Poset_areLabels.l0.eq_2 ..) (ev_pos (by omega) (ev_pos (by omega) (ev_pos (by omega) (ev_call (within_eq _ _ _) ?_))))
    rw [rd_getD, List.range'_succ, List.all_cons]
    refine ev_ite (fun e => ?_) (fun e => ?_)
    · rw [e, Bool.true_and]
      refine ev_pos (by rw [toI_len]; omega) ?_
      rw [rd_less]
      refine Ev.bind (items_ev (g.lt63 i)) ?_
      have hn := areLabels_l0 g x b hb hx d (i + 1) (by omega) (fun j hj => by
        by_cases hji : j = i
        · subst hji; exact e
        · exact ok j (by omega))
      have := areLabels_l1 g x b hb hx i (by omega) ok _ hn (items (less p i)).length 0 (by omega)
      rw [List.drop_zero, items_all (g.lt i (by omega)) (by omega)] at this
      exact this
    · rw [Bool.eq_false_iff.mpr e, Bool.false_and, Bool.false_and]; exact Ev.now _
theorem areLabels_ev {p : List Nat} (g : Good p) (x : List Int) (b : Nat) (hb : b ≤ 1000) (hx : x.length = p.length) : Ev (fun k => impl_Poset_areLabels.f k (toI p) x (b : Int) 0) (arrB p x (b : Int)) := by
  refine ev_call (n_eq _) (ev_pos (by rw [toI_len]; omega) ?_)
  have h := areLabels_l0 g x b hb hx p.length 0 (by omega) (fun j hj => by omega)
  have e : (List.range' 0 p.length).all (fun i => inB (x.getD i 0) 0 (b : Int) && riseAt p x i) = arrB p x (b : Int) := by
    unfold arrB
    rw [Bool.eq_iff_iff]
    simp only [Bool.and_eq_true, List.all_eq_true, List.mem_range'_1]
    constructor
    · intro h2
      refine ⟨fun a ha => ?_, fun i hi => (h2 i hi).2⟩
      obtain ⟨i, hi, rfl⟩ := List.mem_iff_getElem.mp ha
      have := (h2 i ⟨by omega, by omega⟩).1
      simpa [List.getD_eq_getElem?_getD, hi] using this
    · rintro ⟨h1, h2⟩ i hi
      refine ⟨h1 _ ?_, h2 i hi⟩
      have hi' : i < x.length := by omega
      rw [List.getD_eq_getElem?_getD, List.getElem?_eq_getElem hi']; exact List.getElem_mem hi'
  rw [← e]; exact h
theorem isArray_ev (l x : List Int) (b : Int) : Ev (fun k => impl_isArray.f k l x b) (arrayB l x b) := by
  refine Ev.bind (isHigh_ev l b) ?_
  unfold arrayB
  refine ev_ite (fun e => ?_) (fun e => ?_)
  · rw [e, Bool.true_and]
    simp only [Bool.and_eq_true, inB_iff] at e
    obtain ⟨p, rfl, g⟩ := goodB_of e.1
    obtain ⟨c, rfl⟩ : ∃ c : Nat, b = (c : Int) := ⟨b.toNat, by omega⟩
    rw [toNat_toI, toI_len]
    by_cases hx : x.length = p.length
    · rw [decide_eq_true hx, Bool.true_and]
      exact Ev.bind (areLabels_ev g x c (by omega) hx) (Ev.now _)
    · rw [decide_eq_false hx, Bool.false_and]
      exact Ev.bind (ev_call (n_eq _) (ev_neg (by rw [toI_len]; omega) (Ev.now false))) (Ev.now _)
  · rw [Bool.eq_false_iff.mpr e, Bool.false_and, Bool.false_and]; exact Ev.now _
theorem pcIs_ev (l x : List Int) (b : Int) : Ev (fun k => spec_pcIs.f k l x b) (arrayB l x b) := by
  refine Ev.bind (poGood_ev l) ?_
  unfold arrayB
  refine ev_ite (fun e => ?_) (fun e => ?_)
  · obtain ⟨p, rfl, g⟩ := goodB_of e
    rw [e, Bool.true_and, toNat_toI, toI_len]
    refine ev_call (pcBound_eq b) (ev_ite (fun e => ?_) (fun e => ?_))
    · rw [e, Bool.true_and]
      refine ev_ite (fun e => ?_) (fun e => ?_)
      · rw [decide_eq_true (by omega), Bool.true_and]
        exact Ev.bind (pcRises_ev g x b (by omega)) (Ev.now _)
      · rw [decide_eq_false (by omega), Bool.false_and]; exact Ev.now _
    · rw [Bool.eq_false_iff.mpr e, Bool.false_and, Bool.false_and]; exact Ev.now _
  · rw [Bool.eq_false_iff.mpr e]; simpa using Ev.now false
end Go.Proofs.Ytioibkdjcmkcpaa.M
end
section
namespace Go.Proofs.Ytioibkdjcmkcpaa.M
open Go.RowKit Go.Proofs.YtioibkdjcmkcpaaW.PrintWords Go.Proofs.YtioibkdjcmkcpaaW.PrintLast Go.Proofs.YtioibkdjcmkcpaaW.PrintMore Go.Proofs.Ytioibkdjcmkcpaa.L
set_option linter.unusedVariables false
theorem agree_FnExactIsArray (l x : List Int) (b : Int) (_ : l.length ≤ 1048576) (_ : x.length ≤ 1048576) : ∃ r : Bool × Bool, Ev (fun k => spec_IsArray.f k l x b) r ∧ Ev (fun k => impl_IsArray.f k l x b) r := by
  by_cases h1 : goodB l = true
  · obtain ⟨p, rfl, g⟩ := goodB_of h1
    by_cases h2 : inB b 0 20 = true
    · have b2 := inB_iff.mp h2
      obtain ⟨c, rfl⟩ : ∃ c : Nat, b = (c : Int) := ⟨b.toNat, by omega⟩
      by_cases h3 : x.length = p.length
      · exact ⟨(arrB p x c, true), Ev.bind (poGood_ev _) (ev_pos h1 (ev_call (pcBound_eq _) (ev_pos h2 (ev_pos (by rw [toI_len]; omega) (Ev.bind (pcRises_ev g x c h3) (Ev.now _)))))),
          Ev.bind (isHigh_ev _ _) (ev_pos (by rw [h1, h2]; rfl) (ev_call (n_eq _) (ev_pos (by rw [toI_len]; omega) (Ev.bind (areLabels_ev g x c (by omega) h3) (Ev.now _)))))⟩
      · exact ⟨(false, false), Ev.bind (poGood_ev _) (ev_pos h1 (ev_call (pcBound_eq _) (ev_pos h2 (ev_neg (by rw [toI_len]; omega) (Ev.now _))))),
          Ev.bind (isHigh_ev _ _) (ev_pos (by rw [h1, h2]; rfl) (ev_call (n_eq _) (ev_neg (by rw [toI_len]; omega) (Ev.now _))))⟩
    · exact ⟨(false, false), Ev.bind (poGood_ev _) (ev_pos h1 (ev_call (pcBound_eq _) (ev_neg h2 (Ev.now _)))), Ev.bind (isHigh_ev _ _) (ev_neg (by rw [Bool.eq_false_iff.mpr h2]; simp) (Ev.now _))⟩
  · exact ⟨(false, false), Ev.bind (poGood_ev _) (ev_neg h1 (Ev.now _)), Ev.bind (isHigh_ev _ _) (ev_neg (by rw [Bool.eq_false_iff.mpr h1]; simp) (Ev.now _))⟩
end Go.Proofs.Ytioibkdjcmkcpaa.M
end
section
namespace Go.Proofs.Ytioibkdjcmkcpaa.M
open Go.RowKit Go.Proofs.YtioibkdjcmkcpaaW.PrintWords Go.Proofs.YtioibkdjcmkcpaaW.PrintLast Go.Proofs.YtioibkdjcmkcpaaW.PrintMore Go.Proofs.Ytioibkdjcmkcpaa.L
set_option linter.unusedVariables false
theorem Clone_eq (l : List Int) (h : l.length < 17592186044416) : slices_Clone_int_int.f l = some l := by unfold slices_Clone_int_int.f; rw [if_pos h]
theorem toI_get (p : List Nat) (i : Nat) (h : i < (toI p).length) : (toI p)[i] = ((p[i]'(by simpa using h) : Nat) : Int) := by simp [toI]
theorem reverse_l0 (l : List Int) (hl : l.length ≤ 1000000) : ∀ (d i j : Nat) (x : List Int), i + j + 1 = l.length → j + 1 ≤ i + d → (hx : x.length = l.length) →
    (∀ t (h : t < x.length), x[t] = if t < i ∨ j < t then l[l.length - 1 - t]'(by omega) else l[t]'(by omega)) → Ev (fun k => slices_Reverse_int_int.l0 k x (i : Int) (j : Int)) l.reverse
  | 0, i, j, x, h, hd, hx, ht => by
    refine Ev.step (fun _ => slices_Reverse_int_int.l0.eq_2 ..) (ev_neg (by omega) ?_)
    have e : x = l.reverse := by
      apply List.ext_getElem (by simpa using hx)
      intro t h1 h2
      rw [ht t h1, List.getElem_reverse]
      split
      · rfl
      · congr 1; omega
    rw [e]; exact Ev.now _
  | d + 1, i, j, x, h, hd, hx, ht => by
    by_cases hij : i < j
    · refine Ev.step (fun _ => slices_Reverse_int_int.l0.eq_2 ..) (ev_pos (by omega) (ev_pos (by omega) (ev_pos (by omega) (ev_pos (by omega) (ev_pos (by omega) ?_)))))
      have hi : i < x.length := by omega
      have hj : j < x.length := by omega
      rw [rd_get hi, rd_get hj, wrap_succ (by omega), wrap_id (x := (j : Int) - 1) (by omega) (by omega), show ((j : Int) - 1) = ((j - 1 : Nat) : Int) by omega, Int.toNat_natCast, Int.toNat_natCast]
      refine reverse_l0 l hl d (i + 1) (j - 1) _ (by omega) (by omega) (by simpa using hx) (fun t h1 => ?_)
      have h1' : t < x.length := by simpa using h1
      rw [List.getElem_set, List.getElem_set]
      by_cases c1 : j = t
      · subst c1
        rw [if_pos rfl, if_pos (by omega)]
        refine (ht i hi).trans ?_
        rw [if_neg (by omega)]
        congr 1; omega
      · rw [if_neg c1]
        by_cases c2 : i = t
        · subst c2
          rw [if_pos rfl, if_pos (by omega)]
          refine (ht j hj).trans ?_
          rw [if_neg (by omega)]
          congr 1; omega
        · rw [if_neg c2, ht t h1']
          by_cases c3 : t < i ∨ j < t
          · rw [if_pos c3, if_pos (by omega)]
          · rw [if_neg c3, if_neg (by omega)]
    · refine Ev.step (fun _ => slices_Reverse_int_int.l0.eq_2 ..) (ev_neg (by omega) ?_)
      have e : x = l.reverse := by
        apply List.ext_getElem (by simpa using hx)
        intro t h1 h2
        rw [ht t h1, List.getElem_reverse]
        split
        · rfl
        · congr 1; omega
      rw [e]; exact Ev.now _
theorem reverse_ev (l : List Int) (hl : l.length ≤ 1000000) : Ev (fun k => slices_Reverse_int_int.f k l) l.reverse := by
  unfold slices_Reverse_int_int.f
  cases hn : l with
  | nil => exact Ev.step (fun _ => slices_Reverse_int_int.l0.eq_2 ..) (ev_neg (by simp [wrap64]) (Ev.now _))
  | cons x t =>
    rw [← hn]
    have hp : 0 < l.length := by rw [hn]; simp
    rw [wrap_id (by omega) (by omega), show ((l.length : Int) - 1) = ((l.length - 1 : Nat) : Int) by omega]
    refine reverse_l0 l hl l.length 0 (l.length - 1) l (by omega) (by omega) rfl (fun t h => ?_)
    rw [if_neg (by omega)]
theorem toI_rev (p : List Nat) : (toI p).reverse = toI p.reverse := by simp [toI]
end Go.Proofs.Ytioibkdjcmkcpaa.M
end
section
namespace Go.Proofs.Ytioibkdjcmkcpaa.M
open Go.RowKit Go.Proofs.YtioibkdjcmkcpaaW.PrintWords Go.Proofs.YtioibkdjcmkcpaaW.PrintLast Go.Proofs.YtioibkdjcmkcpaaW.PrintMore Go.Proofs.Ytioibkdjcmkcpaa.L
set_option linter.unusedVariables false
def mirrorN (b : Nat) (y : List Nat) : List Nat := y.reverse.map (b - ·)
theorem specMirror_l0 {p y : List Nat} {b : Nat} (a : Arr p y b) (hb : b ≤ 20) (hl : y.length ≤ 10) : ∀ (i : Nat) (acc : List Nat), i ≤ y.length → acc.length + i ≤ 100 →
    Ev (fun k => spec_MirrorArray.l0 k (toI y) (b : Int) (toI acc) ((i : Int) - 1)) (toI (acc ++ (y.take i).reverse.map (b - ·)), true)
  | 0, acc, h, ha => by
    refine Ev.step (fun _ => spec_MirrorArray.l0.eq_2 ..) (ev_neg (by omega) ?_)
    simpa using Ev.now (toI acc, true)
  | i + 1, acc, h, ha => by
    have hi := a.hi i
    refine Ev.step (fun _ => spec_MirrorArray.l0.eq_2 ..) (ev_pos (by omega) (ev_pos (by omega) (ev_pos (by rw [toI_len]; omega) (ev_pos (by rw [toI_len]; omega) ?_))))
    rw [show ((i + 1 : Nat) : Int) - 1 = (i : Int) by omega, rd_toI, wrap_id (by omega) (by omega), wrap_id (x := (i : Int) - 1) (by omega) (by omega), show (b : Int) - ((y.getD i 0 : Nat) : Int) = ((b - y.getD i 0 : Nat) : Int) by omega, ← toI_one, ← toI_app]
    have ih := specMirror_l0 a hb hl i (acc ++ [b - y.getD i 0]) (by omega) (by simp; omega)
    rw [List.take_succ_eq_append_getElem (by omega), List.reverse_append, List.reverse_singleton, List.singleton_append, List.map_cons]
    have e : y.getD i 0 = y[i] := by simp [List.getD_eq_getElem?_getD, show i < y.length by omega]
    rw [List.append_assoc, e] at ih; rw [e]; exact ih
theorem turned_l0 {b : Nat} (hb : b ≤ 20) (w : List Nat) (hw : ∀ i, w.getD i 0 ≤ b) (hl : w.length ≤ 10) : ∀ (d q : Nat) (acc : List Nat), q + d = w.length → acc.length + d ≤ 100 →
    Ev (fun k => impl_turned.l0 k (b : Int) (toI acc) (toI w) ((toI w).length : Int) (q : Int)) (toI (acc ++ (w.drop q).map (b - ·)))
  | 0, q, acc, h, ha => by
    refine Ev.step (fun _ => impl_turned.l0.eq_2 ..) (ev_neg (by rw [toI_len]; omega) ?_)
    rw [List.drop_of_length_le (by omega), List.map_nil, List.append_nil]; exact Ev.now _
  | d + 1, q, acc, h, ha => by
    have hq : q < w.length := by omega
    have hi := hw q
    refine Ev.step (fun _ => impl_turned.l0.eq_2 ..) (ev_pos (by rw [toI_len]; omega) (ev_pos (by omega) (ev_pos (by rw [toI_len]; omega) (ev_pos (by rw [toI_len]; omega) ?_))))
    rw [rd_toI, wrap_id (by omega) (by omega), wrap_succ (by omega), show (b : Int) - ((w.getD q 0 : Nat) : Int) = ((b - w.getD q 0 : Nat) : Int) by omega, ← toI_one, ← toI_app]
    have ih := turned_l0 hb w hw hl d (q + 1) (acc ++ [b - w.getD q 0]) (by omega) (by simp; omega)
    have e : w.getD q 0 = w[q] := by simp [List.getD_eq_getElem?_getD, hq]
    rw [List.drop_eq_getElem_cons hq, List.map_cons]
    rw [List.append_assoc, e] at ih; rw [e]; exact ih
theorem agree_FnExactMirrorArray (l x : List Int) (b : Int) (hl : l.length ≤ 1048576) (hx : x.length ≤ 1048576) : ∃ r : List Int × Bool, r.1.length ≤ 1000 ∧ Ev (fun k => spec_MirrorArray.f k l x b) r ∧ Ev (fun k => impl_MirrorArray.f k l x b) r := by
  by_cases h : arrayB l x b = true
  · obtain ⟨p, y, c, rfl, rfl, rfl, g, hc, a⟩ := arrayB_of h
    have hy : y.length ≤ 10 := by have := g.le; rw [a.len]; omega
    refine ⟨(toI (mirrorN c y), true), by simp [mirrorN]; omega, ?_, ?_⟩
    · refine Ev.bind (pcIs_ev _ _ _) (ev_pos h ?_)
      rw [toI_len, wrap_id (by omega) (by omega)]
      have := specMirror_l0 a hc hy y.length [] (Nat.le_refl _) (by simp; omega)
      rw [List.take_length, List.nil_append] at this
      exact this
    · have hb : Ev (fun k => impl_backwards.f k (toI y)) (toI y.reverse) := by
        refine ev_call (Clone_eq _ (by rw [toI_len]; omega)) (Ev.bind (reverse_ev _ (by rw [toI_len]; omega)) ?_)
        rw [toI_rev]; exact Ev.now _
      have ht := turned_l0 hc y.reverse (fun i => by
        by_cases hi : i < y.reverse.length
        · rw [List.getD_eq_getElem?_getD, List.getElem?_eq_getElem hi, Option.getD_some, List.getElem_reverse]
          have := a.hi (y.length - 1 - i)
          have hi2 : y.length - 1 - i < y.length := by simp at hi; omega
          rw [List.getD_eq_getElem?_getD, List.getElem?_eq_getElem hi2, Option.getD_some] at this
          exact this
        · rw [List.getD_eq_getElem?_getD, List.getElem?_eq_none (by omega)]; exact Nat.zero_le _) (by simpa using hy) _ 0 [] (Nat.zero_add _) (by simp; omega)
      rw [List.drop_zero, List.nil_append] at ht
      exact Ev.bind (isArray_ev _ _ _) (ev_pos h (Ev.bind (Ev.bind hb ht) (Ev.now _)))
  · exact ⟨([], false), Nat.zero_le _, Ev.bind (pcIs_ev _ _ _) (ev_neg h (Ev.now _)), Ev.bind (isArray_ev _ _ _) (ev_neg h (Ev.now _))⟩
end Go.Proofs.Ytioibkdjcmkcpaa.M
end
section
namespace Go.Proofs.Ytioibkdjcmkcpaa.M
open Go.RowKit Go.Proofs.YtioibkdjcmkcpaaW.PrintWords Go.Proofs.YtioibkdjcmkcpaaW.PrintLast Go.Proofs.YtioibkdjcmkcpaaW.PrintMore Go.Proofs.Ytioibkdjcmkcpaa.L
theorem szIntS_eq (l : List Int) (h : l.length ≤ maxLen) : laws_szIntS.f l 1048576 = some (if 1048576 < l.length then -1 else 1048576 - (l.length : Int)) := by
  unfold maxLen at h
  unfold laws_szIntS.f
  rw [wrap_id (by omega) (by omega)]
  by_cases h2 : 1048576 < l.length
  · rw [if_pos (by omega), if_pos h2]
  · rw [if_neg (by omega), if_neg h2]
theorem szPoset_eq (l : List Int) (h : l.length ≤ maxLen) : laws_szPoset.f l 1048576 = some (if 1048576 < l.length then -1 else 1048576 - (l.length : Int)) := by
  unfold laws_szPoset.f
  rw [szIntS_eq l h, Option.bind_some]
  split
  · rfl
  · rw [if_neg (by omega)]
theorem toPoset_ev (l : List Int) (hl : l.length ≤ 35184372088832) : Ev (fun k => laws_toPoset.f k l) l := Ev.bind (toIntS_ev l hl) (Ev.now _)
theorem eqPoset_ev (a b : List Int) (hl : a.length ≤ 9223372036854775806) : Ev (fun k => laws_eqPoset.f k a b) (decide (a = b)) := by
  refine Ev.bind (eqIntS_ev a b hl) (ev_ite (fun e => ?_) (fun e => ?_))
  · rw [e]; exact Ev.now _
  · rw [Bool.eq_false_iff.mpr e]; exact Ev.now _
theorem eqPoset_refl (a : List Int) (hl : a.length ≤ 9223372036854775806) : Ev (fun k => laws_eqPoset.f k a a) true := by simpa using eqPoset_ev a a hl
theorem eqIntS_refl (a : List Int) (hl : a.length ≤ 9223372036854775806) : Ev (fun k => laws_eqIntS.f k a a) true := by simpa using eqIntS_ev a a hl
theorem markPoset_ev (l : List Int) (q : Nat) (hl : l.length ≤ 4611686018427387903) (hq : q ≤ 4611686018427387903) : Ev (fun k => laws_markPoset.f k l (q : Int)) (((q + l.length : Nat) : Int), marks q l.length) := Ev.bind (markIntS_ev l q hl hq) (Ev.now _)
end Go.Proofs.Ytioibkdjcmkcpaa.M
end
section
namespace Go.Proofs.Ytioibkdjcmkcpaa.Pure
open Go.RowKit Go.Proofs.YtioibkdjcmkcpaaW.PrintWords Go.Proofs.YtioibkdjcmkcpaaW.PrintLast Go.Proofs.YtioibkdjcmkcpaaW.PrintMore Go.Proofs.Ytioibkdjcmkcpaa.L Go.Proofs.Ytioibkdjcmkcpaa.M
theorem FnExactMirrorArray : laws_FnExactMirrorArray.Pure2 := by
  intro l0 l1 a2 hm0 hw0 hm1 hw1 w2
  refine Ev.rounds ?_
  by_cases b1 : (l1.length : Int) > 1048576
  · exact ev_pos b1 (Ev.now _)
  refine ev_neg b1 ?_
  refine ev_call (szPoset_eq l0 hm0) ?_
  by_cases b0 : 1048576 < l0.length
  · rw [if_pos b0]; exact ev_pos (by decide) (Ev.now _)
  rw [if_neg b0]
  refine ev_neg (by omega) ?_
  have T0 := toPoset_ev l0 (by omega)
  have E0 := eqPoset_refl l0 (by omega)
  have M0 := markPoset_ev l0 (1) (by omega) (by omega)
  have T1 := toIntS_ev l1 (by omega)
  have E1 := eqIntS_refl l1 (by omega)
  have M1 := markIntS_ev l1 (1 + l0.length) (by omega) (by omega)
  obtain ⟨r, hr, hs, hi⟩ := agree_FnExactMirrorArray l0 l1 a2 (by omega) (by omega)
  have Er := eqIntS_refl r.1 (by omega)
  have Mr := markIntS_ev r.1 1 (by omega) (by omega)
  have Hr := heldIntS_ev 1 r.1.length (by omega) (by omega)
  repeat' first
    | with_reducible exact Ev.now true
    | with_reducible refine Ev.bind hs ?_
    | with_reducible refine Ev.bind hi ?_
    | with_reducible refine Ev.bind T0 ?_
    | with_reducible refine Ev.bind E0 ?_
    | with_reducible refine Ev.bind M0 ?_
    | with_reducible refine Ev.bind T1 ?_
    | with_reducible refine Ev.bind E1 ?_
    | with_reducible refine Ev.bind M1 ?_
    | with_reducible refine Ev.bind Er ?_
    | with_reducible refine Ev.bind Mr ?_
    | with_reducible refine Ev.bind Hr ?_
    | with_reducible refine Ev.step (fun _ => laws_FnExactMirrorArray.j0.eq_2 ..) ?_
    | with_reducible refine Ev.step (fun _ => laws_FnExactMirrorArray.j1.eq_2 ..) ?_
    | with_reducible refine Ev.step (fun _ => laws_FnExactMirrorArray.j2.eq_2 ..) ?_
    | with_reducible refine ev_pos rfl ?_
    | (with_reducible refine ev_neg ?h ?_; case h => first | (simp; done) | omega | (simp only; omega) | (simp; omega))
end Go.Proofs.Ytioibkdjcmkcpaa.Pure
end
section
namespace Go.Proofs.Ytioibkdjcmkcpaa.R
open Go.ChangeShapes Go.WideShapes Go.ChangeAt Go.RowKit
open Go.ChangeMaps (open_string shut_string)
set_option linter.unusedVariables false
def IsRow (k : IntKind) (w : World) (a : Option Addr) (len cap : Nat) (zs : List Int) : Prop :=
  (a = none ∧ len = 0 ∧ cap = 0 ∧ zs = []) ∨
  ∃ x, a = some x ∧ len ≤ cap ∧ cap ≤ maxLen ∧ zs.length = cap ∧ (∀ i, i < zs.length → w.cell? (x.add i) = some (.int k (zs.getD i 0))) ∧ ∀ n ∈ zs, (Lit.int k n).wf = true
variable {H : Type} {enc : TypeId × Value → H} {P : Program} {W : World} {base : Nat} {ps : List MemPlace}
theorem row_of {t e : TypeId} {k : IntKind} {fuel : Nat} {c : Value} {y : DataW H × List MemPlace} (hu : P.underlying t = some (.slice e)) (he : P.underlying e = some (.int k)) (hc : P.cellsOf e = 1)
    (hf : DataW.trod enc P W 0 (fun _ => true) true fuel t [c] = some y) : ∃ a len cap zs, c = .slice a len cap ∧ IsRow k W a len cap zs := by
  rcases open_ints hu he hc hf with ⟨hcs, _⟩ | ⟨x, l, c', zs, hcs, _, hl, hm, hz, _, hcell, hwz⟩
  · simp only [List.cons.injEq, and_true] at hcs
    subst hcs
    exact ⟨_, _, _, [], rfl, .inl ⟨rfl, rfl, rfl, rfl⟩⟩
  · simp only [List.cons.injEq, and_true] at hcs
    subst hcs
    exact ⟨_, _, _, zs, rfl, .inr ⟨_, rfl, hl, hm, by simpa using hz, hcell, hwz⟩⟩
theorem array1 {α : Type} {cs : Array α} (h : cs.size = 1) : ∃ c0, cs = #[c0] := by
  obtain ⟨l⟩ := cs
  match l, h with
  | [c0], _ => exact ⟨c0, rfl⟩
theorem open_poset {r : Reach} {t e : TypeId} {f : Field} {v : Value} {d : DataW H} (hs : P.underlying t = some (.struct #[f])) (ho : f.offset = 0) (hC : P.cellsOf t = 1) (hfc : P.cellsOf f.type = 1) (hu : P.underlying f.type = some (.slice e)) (he : P.underlying e = some (.int .i64)) (hc : P.cellsOf e = 1)
    (hv : Value.okWide P W r base t v) (h : DataW.Trod enc P W 0 (fun _ => true) true t v d ps) : ∃ a len cap zs, v = .agg #[.slice a len cap] ∧ IsRow .i64 W a len cap zs := by
  obtain ⟨cs, rfl, hsz⟩ := okWide_struct hs hv
  obtain ⟨c0, rfl⟩ := array1 (hsz.trans hC)
  obtain ⟨fuel, hf⟩ := h
  obtain ⟨y0, n, _, _, h0⟩ := trod_struct1 hs hf
  rw [ho, hfc] at h0
  obtain ⟨a, len, cap, zs, rfl, hz⟩ := row_of hu he hc (by simpa [Value.cells] using h0)
  exact ⟨a, len, cap, zs, rfl, hz⟩
theorem open_desk {r : Reach} {t e : TypeId} {f f1 g : Field} {v : Value} {d : DataW H} (hs : P.underlying t = some (.struct #[f, f1])) (ho : f.offset = 0) (ho1 : f1.offset = 1) (hC : P.cellsOf t = 2) (hfc : P.cellsOf f.type = 1) (hfc1 : P.cellsOf f1.type = 1)
    (hs2 : P.underlying f.type = some (.struct #[g])) (hgo : g.offset = 0) (hgc : P.cellsOf g.type = 1) (hu : P.underlying g.type = some (.slice e)) (he : P.underlying e = some (.int .i64)) (hc : P.cellsOf e = 1) (hi : P.underlying f1.type = some (.int .i64))
    (hv : Value.okWide P W r base t v) (h : DataW.Trod enc P W 0 (fun _ => true) true t v d ps) : ∃ a len cap zs x, v = .agg #[.slice a len cap, .int .i64 x] ∧ IsRow .i64 W a len cap zs ∧ (Lit.int .i64 x).wf = true := by
  obtain ⟨cs, rfl, hsz⟩ := okWide_struct hs hv
  obtain ⟨c0, c1, rfl⟩ := Joins.array2 (hsz.trans hC)
  obtain ⟨fuel, hf⟩ := h
  obtain ⟨y0, y1, n, _, _, h0, h1⟩ := trod_struct2 hs hf
  rw [ho, hfc] at h0
  rw [ho1, hfc1] at h1
  obtain ⟨z0, m, _, _, h00⟩ := trod_struct1 hs2 h0
  rw [hgo, hgc] at h00
  obtain ⟨a, len, cap, zs, rfl, hz⟩ := row_of hu he hc (by simpa [Value.cells] using h00)
  obtain ⟨x, e0, e1, wx⟩ := DataW.trod_int hi h1
  simp [Value.cells] at e0
  subst e0
  exact ⟨a, len, cap, zs, x, rfl, hz, wx⟩
end Go.Proofs.Ytioibkdjcmkcpaa.R
end
section
namespace Go.Proofs.Ytioibkdjcmkcpaa.fnExactMirrorArray
open Go.ChangeShapes Go.WideShapes Go.ChangeAt Go.RowKit Go.Proofs.YtioibkdjcmkcpaaW.PrintWords Go.Proofs.Ytioibkdjcmkcpaa.R
open Go.ChangeMaps (open_string shut_string)
set_option linter.unusedVariables false
theorem own : ownKnob Try.prog.godebug = none := by kernel_rfl
theorem laidOut : laidOutB Try.prog = true := by kernel_rfl
set_option maxRecDepth 100000 in
theorem lifted (os : Os) (started : os.Started) (H : Type) (enc : TypeId × Value → H) :
    ReturnsInHanded {} Try.checked os 14 .any (Rows.fnExactMirrorArraySpec.pre6 enc Try.prog Try.f14 Rows.fnExactMirrorArrayRow.domain false) (Rows.fnExactMirrorArraySpec.post enc Try.prog Try.f14 false true false false) := by
  refine returnsInHanded_of_change_sized (C := Try.checked) own started (by kernel_rfl) Try.func14
    (ChangeSpec.witness6 (enc := enc) (C := Try.checked) false ⟨#[], #[.agg #[.slice none 0 0], .slice none 0 0, .int .i64 0], []⟩ 8 (by kernel_rfl) (by kernel_rfl) (by kernel_rfl) (by kernel_rfl)) ?_
  intro W base args ds gs before hval0 hW hcnd hsz0 _
  have hval : ∀ (j : Nat) t v, Try.f14.params[j]? = some t → args[j]? = some v → Value.okWide Try.prog W .any base t v := hval0
  have hW' := hW
  obtain ⟨p, q, hA0, hV, rfl, hfz, hnd⟩ := hW
  have hA : DataW.TrodAll enc Try.prog W 0 (fun _ => true) true Try.f14.params.toList args.toList ds p := hA0
  rw [Try.params14] at hA hval
  obtain ⟨v0, vs0, d0, ds0, p0, q0, hargs, rfl, rfl, h0, r0⟩ := trodAll_cons hA
  obtain ⟨v1, vs1, d1, ds1, p1, q1, rfl, rfl, rfl, h1, r1⟩ := trodAll_cons r0
  obtain ⟨v2, vs2, d2, ds2, p2, q2, rfl, rfl, rfl, h2, r2⟩ := trodAll_cons r1
  obtain ⟨rfl, rfl, rfl⟩ := trodAll_nil r2
  obtain rfl : args = #[v0, v1, v2] := by cases args; simp_all
  obtain ⟨rfl, rfl⟩ := trodVars_none hV
  have k0 := h0
  have lt0 : ∀ x ∈ p0, x.block < W.heap.size := by obtain ⟨m, hm⟩ := k0; exact DataW.trod_lt m _ _ _ hm
  obtain ⟨A0, len0, cap0, z0, rfl, w0⟩ := open_poset Try.underlying24 rfl (by kernel_rfl) (by kernel_rfl) Try.underlying22 Try.underlying3 (by kernel_rfl) (hval 0 24 v0 rfl rfl) h0
  have k1 := h1
  have lt1 : ∀ x ∈ p1, x.block < W.heap.size := by obtain ⟨m, hm⟩ := k1; exact DataW.trod_lt m _ _ _ hm
  obtain ⟨A1, len1, cap1, rfl⟩ := okWide_slice Try.underlying22 (hval 1 22 v1 rfl rfl)
  obtain ⟨z1, w1⟩ : ∃ zs, IsRow .i64 W A1 len1 cap1 zs := by
    obtain ⟨fuel, hf⟩ := h1
    obtain ⟨a, l, c, zs, e, hz⟩ := row_of Try.underlying22 Try.underlying3 (by kernel_rfl) (by simpa [Value.cells] using hf)
    injection e with e1 e2 e3
    subst e1 e2 e3
    exact ⟨zs, hz⟩
  have k2 := h2
  have lt2 : ∀ x ∈ p2, x.block < W.heap.size := by obtain ⟨m, hm⟩ := k2; exact DataW.trod_lt m _ _ _ hm
  obtain ⟨a2, rfl, rfl, rfl, w2⟩ := open_int Try.underlying3 (hval 2 3 v2 rfl rfl) h2
  obtain ⟨l0, rfl, hr0, hm0, hw0, hc0⟩ := ReadsInt.ofRowC w0
  obtain ⟨l1, rfl, hr1, hm1, hw1, hc1⟩ := ReadsInt.ofRowC w1
  clear hA0 hval0 hsz0
  obtain ⟨k, hp⟩ := Pure.FnExactMirrorArray l0 l1 a2 hm0 hw0 hm1 hw1 w2
  refine (L.laws_FnExactMirrorArray.calls k _ _ l0 _ _ l1 a2 true W (Kd.C_of_reads (d := (0 : Int)) (h1 := fun _ => rfl) hr0) hc0 (Kd.C_of_reads (d := (0 : Int)) (h1 := fun _ => rfl) hr1) hc1 hp).mono fun e W' ⟨he, hd⟩ => ?_
  have bel : Below W.heap.size W W' := hd
  subst he
  exact ⟨_, rfl, _, _, _, [], _, [], hW', trodAll_mk1 (shut_bool Try.underlying4 _), (trodAll_cons_mk (Below.trod laidOut (by kernel_rfl) (of_decide_eq_true (by kernel_rfl)) k0 bel lt0) (trodAll_cons_mk (Below.trod laidOut (by kernel_rfl) (of_decide_eq_true (by kernel_rfl)) k1 bel lt1) (trodAll_cons_mk (Below.trod laidOut (by kernel_rfl) (of_decide_eq_true (by kernel_rfl)) k2 bel lt2) trodAll_mk0))), rfl, bel.frame _, fun h => by cases h⟩
theorem over : Rows.fnExactMirrorArrayRow.holds Try.pinned (OpenSpec.ofChange Rows.fnExactMirrorArraySpec) :=
  OpenClaim.holds_of_wide 14 Try.f14 rfl rfl rfl rfl rfl rfl rfl ⟨rfl, rfl, rfl, rfl, rfl⟩ rfl rfl rfl rfl rfl (by kernel_rfl) Try.func14 (by kernel_rfl)
    (of_decide_eq_true (by kernel_rfl)) (by unfold Func.isWrapper; first | (rw [if_pos (by decide +kernel)]; kernel_rfl) | (rw [if_neg (by decide +kernel)]; exact ⟨rfl, rfl⟩))
    (fun os started H enc _ => lifted os started H enc)
theorem proved : Rows.FnExactMirrorArraySaid := over
end Go.Proofs.Ytioibkdjcmkcpaa.fnExactMirrorArray
namespace Go.Proofs.Ytioibkdjcmkcpaa
theorem fnExactMirrorArray_holds : Rows.FnExactMirrorArraySaid := fnExactMirrorArray.proved
end Go.Proofs.Ytioibkdjcmkcpaa
end
