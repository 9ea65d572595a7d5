/- Laws about the given program: the law FnExactCountArrays answers true for every input that its row lets in; no condition is added to the given statement. Contracts of the Go functions that it reaches, and the plain proof over lists. -/
import Derived.Below
import Derived.ChangeOld
import Derived.Lib.SmallJoins
import Derived.OpenShut
import Derived.ProofKit
import Derived.ShutString
import Derived.SizedLaws
import Derived.Test.YtioibkdjcmkcpaaRows
import Derived.WalkKit
import Derived.Test.YtioibkdjcmkcpaaWFnExactCountArrays0
import Derived.Test.YtioibkdjcmkcpaaKFnExactCountArrays0
import Derived.Test.YtioibkdjcmkcpaaKFnExactCountArrays1
import Derived.Test.YtioibkdjcmkcpaaKFnExactCountArrays2
import Derived.Test.YtioibkdjcmkcpaaKFnExactCountArrays3
import Derived.Test.YtioibkdjcmkcpaaKFnExactCountArrays4
import Derived.Test.YtioibkdjcmkcpaaKFnExactCountArrays5
section
namespace Go.Proofs.Ytioibkdjcmkcpaa.M
open Go.RowKit Go.Proofs.YtioibkdjcmkcpaaW.PrintWords Go.Proofs.YtioibkdjcmkcpaaW.PrintLast Go.Proofs.YtioibkdjcmkcpaaW.PrintMore Go.Proofs.Ytioibkdjcmkcpaa.L
set_option linter.unusedVariables false
def okI (s t : Int) : Bool := decide (Go.bits .andNot .i64 t s = 0)
def foldW (s : Int) (w : Int → Int) : List Int → Int → Int
  | [], a => a
  | t :: l, a => foldW s w l (if Go.bits .andNot .i64 t s = 0 then wrap64 (a + w t) else a)
def sumI (c : Int → Bool) (w : Int → Int) : List Int → Int
  | [] => 0
  | t :: l => (if c t = true then w t else 0) + sumI c w l
theorem wrap_add (a b : Int) : wrap64 (wrap64 a + b) = wrap64 (a + b) := by unfold wrap64; omega
theorem foldW_eq (s : Int) (w : Int → Int) : ∀ (l : List Int) (a : Int), foldW s w l (wrap64 a) = wrap64 (a + sumI (okI s) w l)
  | [], a => by rw [foldW, sumI, Int.add_zero]
  | t :: l, a => by
    rw [foldW, sumI]
    by_cases h : Go.bits .andNot .i64 t s = 0
    · rw [if_pos h, wrap_add, foldW_eq s w l, if_pos (show okI s t = true from decide_eq_true h), Int.add_assoc]
    · rw [if_neg h, foldW_eq s w l, if_neg (show ¬ okI s t = true from fun e => h (of_decide_eq_true e)), Int.zero_add]
theorem wrap_zero : wrap64 0 = 0 := by unfold wrap64; omega
theorem foldW_zero (s : Int) (w : Int → Int) (l : List Int) : foldW s w l 0 = wrap64 (sumI (okI s) w l) := by
  have := foldW_eq s w l 0
  rw [wrap_zero, Int.zero_add] at this; exact this
def ways (L : List Int) : Nat → Int → Int
  | 0, _ => 1
  | j + 1, t => foldW t (ways L j) L 0
theorem rd_map {L : List Int} {w : Int → Int} {i : Nat} (h : i < L.length) : rd (L.map w) (i : Int) = w L[i] := by rw [rd_get (by simpa using h)]; simp
theorem set_mid (A B : List Int) (z x : Int) (i : Nat) (h : A.length = i) : (A ++ z :: B).set i x = A ++ x :: B := by subst h; simp
theorem count_l0 (b : Int) (L : List Int) (hL : L.length ≤ 1024) (r : Int × Bool) (c : Ev (fun k => spec_CountArrays.l1 k b L (L.map (ways L 0)) 1) r) : ∀ (d i : Nat) (X : List Int), i + d = L.length → X = (L.take i).map (ways L 0) ++ List.replicate d 0 →
    Ev (fun k => spec_CountArrays.l0 k b L X (L.length : Int) (i : Int)) r
  | 0, i, X, h, hx => by
    refine Ev.step (fun _ => spec_CountArrays.l0.eq_2 ..) (ev_neg (by omega) ?_)
    rw [hx, List.take_of_length_le (by omega)]
    simpa using c
  | d + 1, i, X, h, hx => by
    have hi : i < L.length := by omega
    have hl : X.length = L.length := by rw [hx]; simp; omega
    refine Ev.step (fun _ => spec_CountArrays.l0.eq_2 ..) (ev_pos (by omega) (ev_pos (by omega) (ev_pos (by omega) ?_)))
    rw [wrap_succ (by omega), Int.toNat_natCast]
    refine count_l0 b L hL r c d (i + 1) _ (by omega) ?_
    have e : X.set i 1 = (L.take i).map (ways L 0) ++ (1 :: List.replicate d 0) := by
      rw [hx, List.replicate_succ]
      exact set_mid _ _ _ _ _ (by simp; omega)
    rw [e, List.take_succ_eq_append_getElem hi, List.map_append, List.append_assoc]
    rfl
theorem count_l3 (b : Int) (L : List Int) (hL : L.length ≤ 1024) (w : Int → Int) (x9 s : Int) (i : Nat) (hi : i < L.length) (r : Int × Bool) : ∀ (d q : Nat) (X : List Int), q + d = L.length → X.length = L.length →
    Ev (fun k => spec_CountArrays.l2 k b L (L.map w) x9 (X.set i (foldW s w (L.drop q) (rd X (i : Int)))) L (L.length : Int) ((i + 1 : Nat) : Int)) r →
    Ev (fun k => spec_CountArrays.l3 k b L (L.map w) x9 X (i : Int) s L (L.length : Int) (i : Int) L (L.length : Int) (q : Int)) r
  | 0, q, X, h, hx, c => by
    refine Ev.step (fun _ => spec_CountArrays.l3.eq_2 ..) (ev_neg (by omega) ?_)
    rw [wrap_succ (by omega)]
    rw [List.drop_of_length_le (by omega), foldW, rd_get (by omega : i < X.length), List.set_getElem_self] at c
    exact c
  | d + 1, q, X, h, hx, c => by
    have hq : q < L.length := by omega
    refine Ev.step (fun _ => spec_CountArrays.l3.eq_2 ..) (ev_pos (by omega) (ev_pos (by omega) (ev_pos (by omega) ?_)))
    rw [List.drop_eq_getElem_cons hq, foldW] at c
    rw [rd_get hq, wrap_succ (by omega)]
    refine ev_ite (fun e => ?_) (fun e => ?_)
    · rw [if_pos e] at c
      refine ev_pos (by omega) (ev_pos (by omega) (ev_pos (by rw [List.length_map]; omega) ?_))
      rw [rd_map hq, Int.toNat_natCast]
      refine count_l3 b L hL w x9 s i hi r d (q + 1) _ (by omega) (by rw [List.length_set]; exact hx) ?_
      rw [List.set_set, rd_get (by rw [List.length_set]; omega), List.getElem_set_self]
      exact c
    · rw [if_neg e] at c
      exact count_l3 b L hL w x9 s i hi r d (q + 1) X (by omega) hx c
theorem count_l2 (b : Int) (L : List Int) (hL : L.length ≤ 1024) (w : Int → Int) (x9 : Int) (r : Int × Bool) (c : Ev (fun k => spec_CountArrays.l1 k b L (L.map fun t => foldW t w L 0) (wrap64 (x9 + 1))) r) : ∀ (d i : Nat) (X : List Int), i + d = L.length → X = (L.take i).map (fun t => foldW t w L 0) ++ List.replicate d 0 →
    Ev (fun k => spec_CountArrays.l2 k b L (L.map w) x9 X L (L.length : Int) (i : Int)) r
  | 0, i, X, h, hx => by
    refine Ev.step (fun _ => spec_CountArrays.l2.eq_2 ..) (ev_neg (by omega) ?_)
    rw [hx, List.take_of_length_le (by omega)]
    simpa using c
  | d + 1, i, X, h, hx => by
    have hi : i < L.length := by omega
    have hl : X.length = L.length := by rw [hx]; simp; omega
    refine Ev.step (fun _ => spec_CountArrays.l2.eq_2 ..) (ev_pos (by omega) (ev_pos (by omega) (ev_pos (by omega) ?_)))
    rw [rd_get hi]
    refine count_l3 b L hL w x9 L[i] i hi r L.length 0 X (by omega) hl ?_
    have e0 : rd X (i : Int) = 0 := by
      rw [rd_get (by omega)]
      subst hx
      rw [List.getElem_append_right (by simp; omega)]
      simp
    rw [e0, List.drop_zero]
    refine count_l2 b L hL w x9 r c d (i + 1) _ (by omega) ?_
    have e : X.set i (foldW L[i] w L 0) = (L.take i).map (fun t => foldW t w L 0) ++ (foldW L[i] w L 0 :: List.replicate d 0) := by
      rw [hx, List.replicate_succ]
      exact set_mid _ _ _ _ _ (by simp; omega)
    rw [e, List.take_succ_eq_append_getElem hi, List.map_append, List.append_assoc]
    rfl
theorem count_l4 (V : List Int) (hV : V.length ≤ 1024) : ∀ (d i : Nat) (a : Int), i + d = V.length → Ev (fun k => spec_CountArrays.l4 k a V (V.length : Int) (i : Int)) ((V.drop i).foldl (fun a v => wrap64 (a + v)) a, true)
  | 0, i, a, h => by
    refine Ev.step (fun _ => spec_CountArrays.l4.eq_2 ..) (ev_neg (by omega) ?_)
    rw [List.drop_of_length_le (by omega)]
    exact Ev.now _
  | d + 1, i, a, h => by
    have hi : i < V.length := by omega
    refine Ev.step (fun _ => spec_CountArrays.l4.eq_2 ..) (ev_pos (by omega) (ev_pos (by omega) (ev_pos (by omega) ?_)))
    rw [rd_get hi, wrap_succ (by omega), List.drop_eq_getElem_cons hi, List.foldl_cons]
    exact count_l4 V hV d (i + 1) _ (by omega)
theorem foldl_wrap (w : Int → Int) : ∀ (l : List Int) (a : Int), (l.map w).foldl (fun a v => wrap64 (a + v)) (wrap64 a) = wrap64 (a + sumI (fun _ => true) w l)
  | [], a => by rw [List.map_nil, List.foldl_nil, sumI, Int.add_zero]
  | t :: l, a => by rw [List.map_cons, List.foldl_cons, wrap_add, foldl_wrap w l, sumI, if_pos rfl, Int.add_assoc]
def countN (L : List Int) (b : Nat) : Int := if b = 0 then 1 else wrap64 (sumI (fun _ => true) (ways L (b - 1)) L)
theorem count_l1 (b : Nat) (hb : b ≤ 20) (L : List Int) (hL : L.length ≤ 1024) : ∀ (d j : Nat), j + d = b ∨ (b = 0 ∧ j = 1 ∧ d = 0) → 1 ≤ j →
    Ev (fun k => spec_CountArrays.l1 k (b : Int) L (L.map (ways L (j - 1))) (j : Int)) (countN L b, true)
  | 0, j, h, h1 => by
    refine Ev.step (fun _ => spec_CountArrays.l1.eq_2 ..) (ev_neg (by omega) ?_)
    unfold countN
    refine ev_ite (fun e => ?_) (fun e => ?_)
    · rw [if_pos (by omega)]; exact Ev.now _
    · rw [if_neg (by omega)]
      have := count_l4 (L.map (ways L (j - 1))) (by simpa using hL) (L.map (ways L (j - 1))).length 0 0 (by omega)
      rw [List.drop_zero] at this
      have e2 := foldl_wrap (ways L (j - 1)) L 0
      rw [wrap_zero, Int.zero_add] at e2
      rw [e2] at this
      rw [show b - 1 = j - 1 by omega]
      exact this
  | d + 1, j, h, h1 => by
    refine Ev.step (fun _ => spec_CountArrays.l1.eq_2 ..) (ev_pos (by omega) (ev_pos (by omega) (ev_pos (by rw [Int.toNat_natCast]; omega) ?_)))
    refine count_l2 (b : Int) L hL _ (j : Int) _ ?_ L.length 0 _ (by omega) (by simp)
    rw [wrap_succ (by omega)]
    have ih := count_l1 b hb L hL d (j + 1) (by omega) (by omega)
    rw [show j + 1 - 1 = (j - 1) + 1 by omega] at ih
    exact ih
theorem vis_app (c : Int → Bool) : ∀ a b : List (Int × Int), impl_Poset_count.vis c (fun _ => false) (a ++ b) = impl_Poset_count.vis c (fun _ => false) a + impl_Poset_count.vis c (fun _ => false) b
  | [], b => by rw [List.nil_append, impl_Poset_count.vis, Int.zero_add]
  | p :: a, b => by rw [List.cons_append, impl_Poset_count.vis, impl_Poset_count.vis, vis_app c a b, Int.add_assoc]
theorem vis_rev (c : Int → Bool) (w : Int → Int) : ∀ l : List Int, impl_Poset_count.vis c (fun _ => false) (l.map fun t => (t, w t)).reverse = sumI c w l
  | [] => rfl
  | t :: l => by
    rw [List.map_cons, List.reverse_cons, vis_app, vis_rev c w l, impl_Poset_count.vis, impl_Poset_count.vis, sumI]
    simp only [Bool.not_false, Bool.and_true, Int.add_zero]
    rw [Int.add_comm]
theorem met_in (c : Int → Bool) : ∀ {rows : List (Int × Int)} {p : Int × Int}, p ∈ rows → c p.1 = true → impl_Poset_count.met c (fun _ => false) rows = true
  | [], p, h, _ => by cases h
  | q :: l, p, h, hc => by
    rw [impl_Poset_count.met]
    rcases List.mem_cons.mp h with rfl | h
    · rw [hc]; rfl
    · rw [met_in c h hc, Bool.or_true]
theorem step_all (rows : List (Int × Int)) : ∀ (l : List Int) (nx : List (Int × Int)), (∀ t ∈ l, impl_Poset_count.met (okI t) (fun _ => false) rows = true) →
    impl_Poset_count.step rows l nx = (l.map fun t => (t, wrap64 (impl_Poset_count.vis (okI t) (fun _ => false) rows))).reverse ++ nx
  | [], nx, _ => rfl
  | t :: l, nx, h => by
    rw [impl_Poset_count.step_cons, step_all rows l _ fun x hx => h x (List.mem_cons_of_mem _ hx)]
    have e : impl_Poset_count.cur t (fun _ => false) rows nx = (t, wrap64 (impl_Poset_count.vis (okI t) (fun _ => false) rows)) :: nx := by
      unfold impl_Poset_count.cur
      exact if_pos (h t List.mem_cons_self)
    rw [e]; simp
theorem iter_ways {L : List Int} (hs : ∀ t ∈ L, okI t t = true) : ∀ (n j : Nat), impl_Poset_count.iter L n ((L.map fun t => (t, ways L j t)).reverse) = (L.map fun t => (t, ways L (j + n) t)).reverse
  | 0, j => rfl
  | n + 1, j => by
    rw [impl_Poset_count.iter, step_all _ _ _ (fun t ht => met_in (okI t) (p := (t, ways L j t)) (List.mem_reverse.mpr (List.mem_map.mpr ⟨t, ht, rfl⟩)) (hs t ht)), List.append_nil]
    have e : (L.map fun t => (t, wrap64 (impl_Poset_count.vis (okI t) (fun _ => false) (L.map fun t => (t, ways L j t)).reverse))) = L.map fun t => (t, ways L (j + 1) t) := by
      refine List.map_congr_left fun t _ => ?_
      rw [vis_rev, ways, foldW_zero]
    rw [e, iter_ways hs n (j + 1), show j + 1 + n = j + (n + 1) by omega]
theorem iter_one {L : List Int} (hs : ∀ t ∈ L, okI t t = true) (h0 : ∀ t ∈ L, okI t 0 = true) (b : Nat) : impl_Poset_count.tot (impl_Poset_count.iter L b [(0, 1)]) = countN L b := by
  unfold impl_Poset_count.tot countN
  match b with
  | 0 => rw [if_pos rfl, impl_Poset_count.iter, impl_Poset_count.vis, impl_Poset_count.vis]; simp [wrap64]
  | n + 1 =>
    rw [if_neg (by omega), impl_Poset_count.iter, step_all _ _ _ (fun t ht => met_in (okI t) (p := (0, 1)) List.mem_cons_self (h0 t ht)), List.append_nil]
    have e : (L.map fun t => (t, wrap64 (impl_Poset_count.vis (okI t) (fun _ => false) [((0 : Int), (1 : Int))]))) = L.map fun t => (t, ways L 0 t) := by
      refine List.map_congr_left fun t ht => ?_
      rw [impl_Poset_count.vis, impl_Poset_count.vis, h0 t ht, ways]
      simp [wrap64]
    rw [e, iter_ways hs n 0, vis_rev, show 0 + n = n + 1 - 1 by omega]
theorem wf_nat {n : Nat} (h : n < 9223372036854775807) : (Lit.int .i64 (n : Int)).wf = true := by
  unfold Lit.wf
  have e1 : IntKind.i64.min = -9223372036854775808 := by decide
  have e2 : IntKind.i64.max = 9223372036854775807 := by decide
  simp only [Bool.and_eq_true, decide_eq_true_eq, e1, e2]
  omega
theorem count_ev {p : List Nat} (g : Good p) {b : Nat} (hb : b ≤ 20) : Ev (fun k => impl_Poset_count.f k (toI p) (b : Int)) (countN (toI (idls p)) b) := by
  have hl := idls_len g
  have gl := g.le
  have hm : ∀ t ∈ toI (idls p), ∃ s : Nat, t = (s : Int) ∧ s < 1024 := by
    intro t ht
    obtain ⟨s, hs, rfl⟩ := List.mem_map.mp ht
    exact ⟨s, rfl, Nat.lt_of_lt_of_le (mem_idls.mp hs).1 (pow_le10 g)⟩
  refine Ev.bind (implIdeals_ev g) ?_
  refine ev_pos ⟨by rw [toI_len]; omega, ?_, ?_, by omega, by omega⟩ ?_
  · refine List.all_eq_true.mpr fun t ht => ?_
    obtain ⟨s, rfl, h⟩ := hm t ht
    exact wf_nat (by omega)
  · refine (impl_Poset_count.nd_iff _).mpr ?_
    unfold toI
    exact List.Pairwise.map Int.ofNat (fun a b h e => h (Int.ofNat.inj e)) (idls_nodup p)
  · rw [Int.toNat_natCast, iter_one]
    · exact Ev.now _
    · intro t ht
      obtain ⟨s, rfl, h⟩ := hm t ht
      refine decide_eq_true ?_
      rw [bits_andNot (Nat.lt_trans h (by decide)) (Nat.lt_trans h (by decide))]
      have : sd s s = 0 := by
        apply Nat.eq_of_testBit_eq
        intro i
        simp [sd]
      rw [this]; rfl
    · intro t ht
      obtain ⟨s, rfl, h⟩ := hm t ht
      refine decide_eq_true ?_
      have e := bits_andNot (a := 0) (by decide) (Nat.lt_trans h (by decide))
      rw [show ((0 : Nat) : Int) = 0 from rfl] at e
      rw [e]
      have : sd 0 s = 0 := by
        apply Nat.eq_of_testBit_eq
        intro i
        simp [sd]
      rw [this]; rfl
theorem agree_FnExactCountArrays (l : List Int) (b : Int) (hl : l.length ≤ 1048576) : ∃ r : Int × Bool, Ev (fun k => spec_CountArrays.f k l b) r ∧ Ev (fun k => impl_CountArrays.f k l b) r := by
  by_cases h1 : goodB l = true
  · by_cases h2 : inB b 0 20 = true
    · obtain ⟨p, rfl, g⟩ := goodB_of h1
      have b2 := inB_iff.mp h2
      obtain ⟨n, rfl⟩ : ∃ n : Nat, b = (n : Int) := ⟨b.toNat, by omega⟩
      by_cases h3 : p.length ≤ 6
      · have hl2 := idls_len g
        refine ⟨(countN (toI (idls p)) n, true), ?_, ?_⟩
        · refine Ev.bind (poGood_ev _) (ev_pos h1 (ev_neg (by rw [toI_len]; omega) (ev_call (pcBound_eq _) ?_)))
          rw [h2]
          refine Ev.step (fun _ => spec_CountArrays.j0.eq_2 ..) (ev_neg (by simp) (Ev.bind (poIdeals_ev g) (ev_pos (by omega) (ev_pos (by rw [Int.toNat_natCast, toI_len]; omega) (ev_call rfl ?_)))))
          rw [Int.toNat_natCast, List.length_replicate]
          refine count_l0 (n : Int) _ (by rw [toI_len]; exact hl2) _ ?_ (toI (idls p)).length 0 _ (by omega) (by simp)
          by_cases hn : n = 0
          · exact count_l1 n (by omega) _ (by rw [toI_len]; exact hl2) 0 1 (.inr ⟨hn, rfl, rfl⟩) (by omega)
          · exact count_l1 n (by omega) _ (by rw [toI_len]; exact hl2) (n - 1) 1 (.inl (by omega)) (by omega)
        · refine Ev.bind (isHigh_ev _ _) (ev_pos (by rw [h1, h2]; rfl) (ev_call (n_eq _) (ev_neg (by rw [toI_len]; omega) (Ev.bind (count_ev g (by omega)) (Ev.now _)))))
      · refine ⟨(0, false), ?_, ?_⟩
        · exact Ev.bind (poGood_ev _) (ev_pos h1 (ev_pos (by rw [toI_len]; omega) (Ev.step (fun _ => spec_CountArrays.j0.eq_2 ..) (ev_pos rfl (Ev.now _)))))
        · exact Ev.bind (isHigh_ev _ _) (ev_pos (by rw [h1, h2]; rfl) (ev_call (n_eq _) (ev_pos (by rw [toI_len]; omega) (Ev.now _))))
    · refine ⟨(0, false), ?_, ?_⟩
      · refine Ev.bind (poGood_ev _) (ev_pos h1 (ev_ite (fun _ => Ev.step (fun _ => spec_CountArrays.j0.eq_2 ..) (ev_pos rfl (Ev.now _))) (fun _ => ev_call (pcBound_eq _) ?_)))
        rw [Bool.eq_false_iff.mpr h2]
        exact Ev.step (fun _ => spec_CountArrays.j0.eq_2 ..) (ev_pos rfl (Ev.now _))
      · exact Ev.bind (isHigh_ev _ _) (ev_neg (by rw [Bool.eq_false_iff.mpr h2, Bool.and_false]; simp) (Ev.now _))
  · refine ⟨(0, false), ?_, ?_⟩
    · exact Ev.bind (poGood_ev _) (ev_neg h1 (Ev.step (fun _ => spec_CountArrays.j0.eq_2 ..) (ev_pos rfl (Ev.now _))))
    · exact Ev.bind (isHigh_ev _ _) (ev_neg (by rw [Bool.eq_false_iff.mpr h1, Bool.false_and]; simp) (Ev.now _))
end Go.Proofs.Ytioibkdjcmkcpaa.M
end
section
namespace Go.Proofs.Ytioibkdjcmkcpaa.L
open Go.RowKit Go.Proofs.YtioibkdjcmkcpaaW.PrintWords Go.Proofs.YtioibkdjcmkcpaaW.PrintLast Go.Proofs.YtioibkdjcmkcpaaW.PrintMore
attribute [local go_sem] max2_int min2_int max_two min_two max_three min_three max_four min_four
set_option linter.unusedVariables false
set_option linter.unusedSimpArgs false
def laws_markPoset.f (k : Nat) (l0_0 : List Int) (a1 : Int) : Option (Int × List Int) := (laws_markIntS.f k l0_0 a1).bind fun bt369 => (some (bt369.1, bt369.2))
theorem laws_markPoset.mono : ∀ a0 a1 k, LeO (laws_markPoset.f k a0 a1) (laws_markPoset.f (k + 1) a0 a1) := by
  intro a0 a1 k
  unfold laws_markPoset.f
  repeat' first
      | (with_reducible exact laws_markIntS.mono _ _ _)
      | (with_reducible exact LeO.refl _)
      | (with_reducible exact LeO.none _)
      | (with_reducible refine LeO.ite ?_ ?_)
      | (with_reducible refine LeO.bind ?_ (fun _ => ?_))
      | exact laws_markIntS.mono _ _ _
      | exact LeO.none _
      | refine LeO.ite ?_ ?_
      | refine LeO.bind ?_ (fun _ => ?_)
set_option maxHeartbeats 8000000 in
set_option maxRecDepth 100000 in
theorem laws_markPoset.calls (k : Nat) (P0_0_ : Nat → Prop) (u9000_ : Value) (l0_0 : List Int) (a1 : Int) (r1 : Int) (r2 : List Int) (w0 w : World) (hB : Below w0.heap.size w0 w) (ho0_0 : Kd.R (Kd.int .i64) 3 w w0.heap.size P0_0_ u9000_ l0_0) (h : laws_markPoset.f k l0_0 a1 = some (r1, r2)) :
    Calls Try.prog 30 #[.agg #[u9000_], .int .i64 a1] w fun e w' => e = .returned (.int .i64 r1) ∧ Kd.R (Kd.int .i64) 3 w' w0.heap.size (fun k_ => (P0_0_ k_ ∨ w.heap.size ≤ k_)) u9000_ r2 ∧ Below w0.heap.size w0 w' ∧ Kept w w' (fun k_ => P0_0_ k_) := by
  have hu28 := Try.underlying28
  have HO0_0 := Aside0.mk (show Kd.R (Kd.int .i64) 3 w w0.heap.size (fun k_ => (P0_0_ k_ ∨ w.heap.size ≤ k_)) u9000_ l0_0 from Kd.R_mono ho0_0 (fun k_ hk => (.inl hk)))
  have HK := Aside0.mk (Kept.refl w (fun k_ => P0_0_ k_))
  have HW0 := Aside0.mk hB.size
  have HB := Aside0.mk hB
  clear hB
  have H : ((laws_markIntS.f k l0_0 a1).bind fun bt369 => (some (bt369.1, bt369.2))) = some (r1, r2) := h
  clear h
  replace H := Option.bind_eq_some_iff.mp H
  obtain ⟨⟨t369, t370⟩, A30, H⟩ := H
  replace H : (some (t369, t370)) = some (r1, r2) := H
  have A3 := Aside0.mk A30
  clear A30
  simp only [Option.some.injEq, Prod.mk.injEq] at H
  obtain ⟨rfl, rfl⟩ := H
  obtain ⟨Ao4, co4, eo4⟩ := Kd.R_slice HO0_0.out
  subst eo4
  go_enter Try.func30, Try.ntmps30
  go_wp2_with (first | ((with_reducible refine gate_dst (N := 2) rfl ?_); refine box_event ?hg (N := 2) ?hd (cs := #[.slice Ao4 l0_0.length co4]) (t := 28) ?hr ?_; (case hd => rfl); (case hg => rfl); (case hr => first | (go_simp; done) | (go_simp; rfl)); intro gb368 hg w5 hbox hb; have n0_ := Aside0.mk (Kd.R_below (by (with_reducible repeat (first | apply Kd.R_alloc | apply Kd.R_drewN | apply Kd.R_drew)); exact HO0_0.out) hb); have n1_ := Aside0.mk (Kept.below (S := (fun k_ => P0_0_ k_)) (by repeat (first | (with_reducible first | exact HK.out | apply Kept.alloc | apply Kept.drewN | apply Kept.drew) | exact HK.out)) hb); have n2_ := Aside0.mk (below_step (by repeat (first | (with_reducible first | exact HB.out | apply below_alloc | apply pw_below_drewN | apply below_drew1) | exact HB.out)) hb); have n3_ := Aside0.mk (hbox); have n4_ := Aside0.mk ((by rw [hg]; exact (by first | exact HK.out.1 | exact (show Kept w _ (fun k_ => P0_0_ k_) from by repeat (first | (with_reducible first | exact HK.out | apply Kept.alloc | apply Kept.drewN | apply Kept.drew) | exact HK.out)).1) : w.heap.size ≤ gb368)); have n5_ := Aside0.mk ((by rw [hg]; exact (below_size (by repeat (first | (with_reducible first | exact HB.out | apply below_alloc | apply pw_below_drewN | apply below_drew1) | exact HB.out))) : w0.heap.size ≤ gb368)); clear HO0_0; clear HK; clear HB; have HO0_0 := n0_; have HK := n1_; have HB := n2_; have BK368 := n3_; have GW368 := n4_; have GE368 := n5_; clear n0_ n1_ n2_ n3_ n4_ n5_; clear hb hbox hg; have hcz6_0 : w5.cell? ⟨gb368, 0, none⟩ = some (.slice Ao4 l0_0.length co4) := (blk_cell BK368.out 0).trans rfl; have hfz6_0 := blk_frozen BK368.out 0) | ((with_reducible refine gate_callee (f := 26) rfl ?_); refine goesL_ (some 8) rfl rfl Try.func26 (by kernel_rfl) rfl #[.slice Ao4 l0_0.length co4, .int .i64 a1] rfl (by (try simp only [List.map_toArray, List.map_cons, List.map_nil]); first | done | rfl | (simp only [List.length_drop, List.length_take]; rfl)) ?_; (with_reducible refine (laws_markIntS.calls k (fun k_ => some k_ = (.slice Ao4 l0_0.length co4 : Value).ownBlock) (.slice Ao4 l0_0.length co4) l0_0 a1 t369 t370 w0 _ ?side1 ?side2 A3.out).mono ?_); (case side1 => repeat (first | (with_reducible first | exact HB.out | apply below_alloc | apply pw_below_drewN | apply below_drew1 | refine below_set ?_ GE368.out) | exact HB.out)); (case side2 => exact Kd.R_tight rfl HO0_0.out); rintro e w7 ⟨rfl, hy0, hb, hkp⟩; refine ⟨_, rfl, ?_⟩; have n0_ := Aside0.mk (Kd.R_reok rfl hy0 (fun k_ e_ => HO0_0.out.1 k_ e_)); have n1_ := Aside0.mk (blk_kept (by (with_reducible repeat (first | refine blk_drewN ?_ _ | refine blk_drew ?_ | refine blk_alloc ?_ _)); exact BK368.out) hkp (fun hs_ => (fun e_ => (Kd.R_ne HO0_0.out BK368.out (by decide)) e_) hs_)); have n2_ := Aside0.mk (Kept.then_ (S := (fun k_ => P0_0_ k_)) (by repeat (first | (with_reducible first | exact HK.out | apply Kept.alloc | apply Kept.drewN | apply Kept.drew | refine Kept.setCell ?_ (.inr GW368.out) _) | exact HK.out)) hkp (fun k_ hs_ => (fun e_ => (HO0_0.out.1 k_ e_.symm)) hs_)); have n3_ := Aside0.mk (hb); clear HO0_0; clear BK368; clear HK; clear HB; have HO0_0 := n0_; have BK368 := n1_; have HK := n2_; have HB := n3_; clear n0_ n1_ n2_ n3_; (try clear hb); (try clear hkp); (try clear hy0)))
  go_ret
  exact ⟨by first | rfl | (simp [errW_none, errW_some] <;> rfl) | (simp [*, errW_none, errW_some] <;> rfl), by (with_reducible repeat (first | apply Kd.R_alloc | apply Kd.R_drewN | apply Kd.R_drew)); exact HO0_0.out, by repeat (first | (with_reducible first | exact HB.out | apply below_alloc | apply pw_below_drewN | apply below_drew1 | refine below_set ?_ GE368.out) | exact HB.out), by repeat (first | (with_reducible first | exact HK.out | apply Kept.alloc | apply Kept.drewN | apply Kept.drew | refine Kept.setCell ?_ (.inr GW368.out) _) | exact HK.out)⟩
end Go.Proofs.Ytioibkdjcmkcpaa.L
end
section
namespace Go.Proofs.Ytioibkdjcmkcpaa.M
open Go.RowKit Go.Proofs.YtioibkdjcmkcpaaW.PrintWords Go.Proofs.YtioibkdjcmkcpaaW.PrintLast Go.Proofs.YtioibkdjcmkcpaaW.PrintMore Go.Proofs.Ytioibkdjcmkcpaa.L
theorem szIntS_eq (l : List Int) (h : l.length ≤ maxLen) : laws_szIntS.f l 1048576 = some (if 1048576 < l.length then -1 else 1048576 - (l.length : Int)) := by
  unfold maxLen at h
  unfold laws_szIntS.f
  rw [wrap_id (by omega) (by omega)]
  by_cases h2 : 1048576 < l.length
  · rw [if_pos (by omega), if_pos h2]
  · rw [if_neg (by omega), if_neg h2]
theorem szPoset_eq (l : List Int) (h : l.length ≤ maxLen) : laws_szPoset.f l 1048576 = some (if 1048576 < l.length then -1 else 1048576 - (l.length : Int)) := by
  unfold laws_szPoset.f
  rw [szIntS_eq l h, Option.bind_some]
  split
  · rfl
  · rw [if_neg (by omega)]
theorem toPoset_ev (l : List Int) (hl : l.length ≤ 35184372088832) : Ev (fun k => laws_toPoset.f k l) l := Ev.bind (toIntS_ev l hl) (Ev.now _)
theorem eqPoset_ev (a b : List Int) (hl : a.length ≤ 9223372036854775806) : Ev (fun k => laws_eqPoset.f k a b) (decide (a = b)) := by
  refine Ev.bind (eqIntS_ev a b hl) (ev_ite (fun e => ?_) (fun e => ?_))
  · rw [e]; exact Ev.now _
  · rw [Bool.eq_false_iff.mpr e]; exact Ev.now _
theorem eqPoset_refl (a : List Int) (hl : a.length ≤ 9223372036854775806) : Ev (fun k => laws_eqPoset.f k a a) true := by simpa using eqPoset_ev a a hl
theorem markPoset_ev (l : List Int) (q : Nat) (hl : l.length ≤ 4611686018427387903) (hq : q ≤ 4611686018427387903) : Ev (fun k => laws_markPoset.f k l (q : Int)) (((q + l.length : Nat) : Int), marks q l.length) := Ev.bind (markIntS_ev l q hl hq) (Ev.now _)
end Go.Proofs.Ytioibkdjcmkcpaa.M
end
section
namespace Go.Proofs.Ytioibkdjcmkcpaa.Pure
open Go.RowKit Go.Proofs.YtioibkdjcmkcpaaW.PrintWords Go.Proofs.YtioibkdjcmkcpaaW.PrintLast Go.Proofs.YtioibkdjcmkcpaaW.PrintMore Go.Proofs.Ytioibkdjcmkcpaa.L Go.Proofs.Ytioibkdjcmkcpaa.M
theorem FnExactCountArrays : laws_FnExactCountArrays.Pure2 := by
  intro l0 a1 hm0 hw0 w1
  refine Ev.rounds ?_
  refine ev_call (szPoset_eq l0 hm0) ?_
  by_cases b0 : 1048576 < l0.length
  · rw [if_pos b0]; exact ev_pos (by decide) (Ev.now _)
  rw [if_neg b0]
  refine ev_neg (by omega) ?_
  have T0 := toPoset_ev l0 (by omega)
  have E0 := eqPoset_refl l0 (by omega)
  have M0 := markPoset_ev l0 (1) (by omega) (by omega)
  obtain ⟨r, hs, hi⟩ := agree_FnExactCountArrays l0 a1 (by omega)
  repeat' first
    | with_reducible exact Ev.now true
    | with_reducible refine Ev.bind hs ?_
    | with_reducible refine Ev.bind hi ?_
    | with_reducible refine Ev.bind T0 ?_
    | with_reducible refine Ev.bind E0 ?_
    | with_reducible refine Ev.bind M0 ?_
    | with_reducible refine Ev.step (fun _ => laws_FnExactCountArrays.j0.eq_2 ..) ?_
    | with_reducible refine ev_pos rfl ?_
    | (with_reducible refine ev_neg ?h ?_; case h => first | (simp; done) | omega | (simp only; omega) | (simp; omega))
end Go.Proofs.Ytioibkdjcmkcpaa.Pure
end
section
namespace Go.Proofs.Ytioibkdjcmkcpaa.R
open Go.ChangeShapes Go.WideShapes Go.ChangeAt Go.RowKit
open Go.ChangeMaps (open_string shut_string)
set_option linter.unusedVariables false
def IsRow (k : IntKind) (w : World) (a : Option Addr) (len cap : Nat) (zs : List Int) : Prop :=
  (a = none ∧ len = 0 ∧ cap = 0 ∧ zs = []) ∨
  ∃ x, a = some x ∧ len ≤ cap ∧ cap ≤ maxLen ∧ zs.length = cap ∧ (∀ i, i < zs.length → w.cell? (x.add i) = some (.int k (zs.getD i 0))) ∧ ∀ n ∈ zs, (Lit.int k n).wf = true
variable {H : Type} {enc : TypeId × Value → H} {P : Program} {W : World} {base : Nat} {ps : List MemPlace}
theorem row_of {t e : TypeId} {k : IntKind} {fuel : Nat} {c : Value} {y : DataW H × List MemPlace} (hu : P.underlying t = some (.slice e)) (he : P.underlying e = some (.int k)) (hc : P.cellsOf e = 1)
    (hf : DataW.trod enc P W 0 (fun _ => true) true fuel t [c] = some y) : ∃ a len cap zs, c = .slice a len cap ∧ IsRow k W a len cap zs := by
  rcases open_ints hu he hc hf with ⟨hcs, _⟩ | ⟨x, l, c', zs, hcs, _, hl, hm, hz, _, hcell, hwz⟩
  · simp only [List.cons.injEq, and_true] at hcs
    subst hcs
    exact ⟨_, _, _, [], rfl, .inl ⟨rfl, rfl, rfl, rfl⟩⟩
  · simp only [List.cons.injEq, and_true] at hcs
    subst hcs
    exact ⟨_, _, _, zs, rfl, .inr ⟨_, rfl, hl, hm, by simpa using hz, hcell, hwz⟩⟩
theorem array1 {α : Type} {cs : Array α} (h : cs.size = 1) : ∃ c0, cs = #[c0] := by
  obtain ⟨l⟩ := cs
  match l, h with
  | [c0], _ => exact ⟨c0, rfl⟩
theorem open_poset {r : Reach} {t e : TypeId} {f : Field} {v : Value} {d : DataW H} (hs : P.underlying t = some (.struct #[f])) (ho : f.offset = 0) (hC : P.cellsOf t = 1) (hfc : P.cellsOf f.type = 1) (hu : P.underlying f.type = some (.slice e)) (he : P.underlying e = some (.int .i64)) (hc : P.cellsOf e = 1)
    (hv : Value.okWide P W r base t v) (h : DataW.Trod enc P W 0 (fun _ => true) true t v d ps) : ∃ a len cap zs, v = .agg #[.slice a len cap] ∧ IsRow .i64 W a len cap zs := by
  obtain ⟨cs, rfl, hsz⟩ := okWide_struct hs hv
  obtain ⟨c0, rfl⟩ := array1 (hsz.trans hC)
  obtain ⟨fuel, hf⟩ := h
  obtain ⟨y0, n, _, _, h0⟩ := trod_struct1 hs hf
  rw [ho, hfc] at h0
  obtain ⟨a, len, cap, zs, rfl, hz⟩ := row_of hu he hc (by simpa [Value.cells] using h0)
  exact ⟨a, len, cap, zs, rfl, hz⟩
theorem open_desk {r : Reach} {t e : TypeId} {f f1 g : Field} {v : Value} {d : DataW H} (hs : P.underlying t = some (.struct #[f, f1])) (ho : f.offset = 0) (ho1 : f1.offset = 1) (hC : P.cellsOf t = 2) (hfc : P.cellsOf f.type = 1) (hfc1 : P.cellsOf f1.type = 1)
    (hs2 : P.underlying f.type = some (.struct #[g])) (hgo : g.offset = 0) (hgc : P.cellsOf g.type = 1) (hu : P.underlying g.type = some (.slice e)) (he : P.underlying e = some (.int .i64)) (hc : P.cellsOf e = 1) (hi : P.underlying f1.type = some (.int .i64))
    (hv : Value.okWide P W r base t v) (h : DataW.Trod enc P W 0 (fun _ => true) true t v d ps) : ∃ a len cap zs x, v = .agg #[.slice a len cap, .int .i64 x] ∧ IsRow .i64 W a len cap zs ∧ (Lit.int .i64 x).wf = true := by
  obtain ⟨cs, rfl, hsz⟩ := okWide_struct hs hv
  obtain ⟨c0, c1, rfl⟩ := Joins.array2 (hsz.trans hC)
  obtain ⟨fuel, hf⟩ := h
  obtain ⟨y0, y1, n, _, _, h0, h1⟩ := trod_struct2 hs hf
  rw [ho, hfc] at h0
  rw [ho1, hfc1] at h1
  obtain ⟨z0, m, _, _, h00⟩ := trod_struct1 hs2 h0
  rw [hgo, hgc] at h00
  obtain ⟨a, len, cap, zs, rfl, hz⟩ := row_of hu he hc (by simpa [Value.cells] using h00)
  obtain ⟨x, e0, e1, wx⟩ := DataW.trod_int hi h1
  simp [Value.cells] at e0
  subst e0
  exact ⟨a, len, cap, zs, x, rfl, hz, wx⟩
end Go.Proofs.Ytioibkdjcmkcpaa.R
end
section
namespace Go.Proofs.Ytioibkdjcmkcpaa.fnExactCountArrays
open Go.ChangeShapes Go.WideShapes Go.ChangeAt Go.RowKit Go.Proofs.YtioibkdjcmkcpaaW.PrintWords Go.Proofs.Ytioibkdjcmkcpaa.R
open Go.ChangeMaps (open_string shut_string)
set_option linter.unusedVariables false
theorem own : ownKnob Try.prog.godebug = none := by kernel_rfl
theorem laidOut : laidOutB Try.prog = true := by kernel_rfl
set_option maxRecDepth 100000 in
theorem lifted (os : Os) (started : os.Started) (H : Type) (enc : TypeId × Value → H) :
    ReturnsInHanded {} Try.checked os 11 .any (Rows.fnExactCountArraysSpec.pre6 enc Try.prog Try.f11 Rows.fnExactCountArraysRow.domain false) (Rows.fnExactCountArraysSpec.post enc Try.prog Try.f11 false true false false) := by
  refine returnsInHanded_of_change_sized (C := Try.checked) own started (by kernel_rfl) Try.func11
    (ChangeSpec.witness6 (enc := enc) (C := Try.checked) false ⟨#[], #[.agg #[.slice none 0 0], .int .i64 0], []⟩ 8 (by kernel_rfl) (by kernel_rfl) (by kernel_rfl) (by kernel_rfl)) ?_
  intro W base args ds gs before hval0 hW hcnd hsz0 _
  have hval : ∀ (j : Nat) t v, Try.f11.params[j]? = some t → args[j]? = some v → Value.okWide Try.prog W .any base t v := hval0
  have hW' := hW
  obtain ⟨p, q, hA0, hV, rfl, hfz, hnd⟩ := hW
  have hA : DataW.TrodAll enc Try.prog W 0 (fun _ => true) true Try.f11.params.toList args.toList ds p := hA0
  rw [Try.params11] at hA hval
  obtain ⟨v0, vs0, d0, ds0, p0, q0, hargs, rfl, rfl, h0, r0⟩ := trodAll_cons hA
  obtain ⟨v1, vs1, d1, ds1, p1, q1, rfl, rfl, rfl, h1, r1⟩ := trodAll_cons r0
  obtain ⟨rfl, rfl, rfl⟩ := trodAll_nil r1
  obtain rfl : args = #[v0, v1] := by cases args; simp_all
  obtain ⟨rfl, rfl⟩ := trodVars_none hV
  have k0 := h0
  have lt0 : ∀ x ∈ p0, x.block < W.heap.size := by obtain ⟨m, hm⟩ := k0; exact DataW.trod_lt m _ _ _ hm
  obtain ⟨A0, len0, cap0, z0, rfl, w0⟩ := open_poset Try.underlying24 rfl (by kernel_rfl) (by kernel_rfl) Try.underlying22 Try.underlying3 (by kernel_rfl) (hval 0 24 v0 rfl rfl) h0
  have k1 := h1
  have lt1 : ∀ x ∈ p1, x.block < W.heap.size := by obtain ⟨m, hm⟩ := k1; exact DataW.trod_lt m _ _ _ hm
  obtain ⟨a1, rfl, rfl, rfl, w1⟩ := open_int Try.underlying3 (hval 1 3 v1 rfl rfl) h1
  obtain ⟨l0, rfl, hr0, hm0, hw0, hc0⟩ := ReadsInt.ofRowC w0
  clear hA0 hval0 hsz0
  obtain ⟨k, hp⟩ := Pure.FnExactCountArrays l0 a1 hm0 hw0 w1
  refine (L.laws_FnExactCountArrays.calls k _ _ l0 a1 true W (Kd.C_of_reads (d := (0 : Int)) (h1 := fun _ => rfl) hr0) hc0 hp).mono fun e W' ⟨he, hd⟩ => ?_
  have bel : Below W.heap.size W W' := hd
  subst he
  exact ⟨_, rfl, _, _, _, [], _, [], hW', trodAll_mk1 (shut_bool Try.underlying4 _), (trodAll_cons_mk (Below.trod laidOut (by kernel_rfl) (of_decide_eq_true (by kernel_rfl)) k0 bel lt0) (trodAll_cons_mk (Below.trod laidOut (by kernel_rfl) (of_decide_eq_true (by kernel_rfl)) k1 bel lt1) trodAll_mk0)), rfl, bel.frame _, fun h => by cases h⟩
theorem over : Rows.fnExactCountArraysRow.holds Try.pinned (OpenSpec.ofChange Rows.fnExactCountArraysSpec) :=
  OpenClaim.holds_of_wide 11 Try.f11 rfl rfl rfl rfl rfl rfl rfl ⟨rfl, rfl, rfl, rfl, rfl⟩ rfl rfl rfl rfl rfl (by kernel_rfl) Try.func11 (by kernel_rfl)
    (of_decide_eq_true (by kernel_rfl)) (by unfold Func.isWrapper; first | (rw [if_pos (by decide +kernel)]; kernel_rfl) | (rw [if_neg (by decide +kernel)]; exact ⟨rfl, rfl⟩))
    (fun os started H enc _ => lifted os started H enc)
theorem proved : Rows.FnExactCountArraysSaid := over
end Go.Proofs.Ytioibkdjcmkcpaa.fnExactCountArrays
namespace Go.Proofs.Ytioibkdjcmkcpaa
theorem fnExactCountArrays_holds : Rows.FnExactCountArraysSaid := fnExactCountArrays.proved
end Go.Proofs.Ytioibkdjcmkcpaa
end
