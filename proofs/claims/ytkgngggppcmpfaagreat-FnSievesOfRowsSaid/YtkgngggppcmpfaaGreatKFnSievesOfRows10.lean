/- Laws about the given program: the law FnSievesOfRows answers true for every input that its row lets in; no condition is added to the given statement. Contracts of the Go functions that it reaches, and the plain proof over lists. -/
import Derived.Test.YtkgngggppcmpfaaGreatWFnSievesOfRows0
import Derived.Test.YtkgngggppcmpfaaGreatKFnSievesOfRows0
import Derived.Test.YtkgngggppcmpfaaGreatKFnSievesOfRows1
import Derived.Test.YtkgngggppcmpfaaGreatKFnSievesOfRows2
import Derived.Test.YtkgngggppcmpfaaGreatKFnSievesOfRows3
import Derived.Test.YtkgngggppcmpfaaGreatKFnSievesOfRows4
import Derived.Test.YtkgngggppcmpfaaGreatKFnSievesOfRows5
import Derived.Test.YtkgngggppcmpfaaGreatKFnSievesOfRows6
import Derived.Test.YtkgngggppcmpfaaGreatKFnSievesOfRows7
import Derived.Test.YtkgngggppcmpfaaGreatKFnSievesOfRows8
import Derived.Test.YtkgngggppcmpfaaGreatKFnSievesOfRows9
section
namespace Go.Proofs.YtkgngggppcmpfaaGreat.M
open Go.RowKit Go.Proofs.YtkgngggppcmpfaaGreatW.PrintWords Go.Proofs.YtkgngggppcmpfaaGreatW.PrintLast Go.Proofs.YtkgngggppcmpfaaGreatW.PrintMore Go.Proofs.YtkgngggppcmpfaaGreat.L
set_option linter.unusedVariables false
theorem sides_ok {c : List Int} {t s : Int} {m : Nat} (h : Cu c t m) (hm : m ≤ 800000) : ∃ a b t' s', spec_l1Cur_sides.f c t s = some (a, b, t', s') ∧ Cu c t' (m + 6) := by
  obtain ⟨o, t1, s1, e1, k1⟩ := one_ok (s := s) 10 h (by omega)
  unfold spec_l1Cur_sides.f
  rw [Option.bind_some, e1, Option.bind_some]
  cases o with
  | true =>
    obtain ⟨v, t2, s2, e2, _, _, k2⟩ := pick_ok (s := s1) 13 k1 (by omega)
    obtain ⟨v', t3, s3, e3, _, _, k3⟩ := pick_ok (s := s2) 13 k2 (by omega)
    dsimp only
    rw [if_pos rfl, e2, Option.bind_some, e3, Option.bind_some]
    exact ⟨_, _, _, _, rfl, k3⟩
  | false =>
    obtain ⟨v, t2, s2, e2, v0, v1, k2⟩ := pick_ok (s := s1) 11 k1 (by omega)
    dsimp only
    rw [if_neg (by simp), show ((List.length [[1, 1], [1, 4], [2, 2], [2, 3], [3, 2], [2, 4], [4, 2], [3, 3], [2, 5], [5, 2], [3, (1 : Int)]] : Nat) : Int) = 11 from rfl, e2, Option.bind_some]
    have hv : v = 0 ∨ v = 1 ∨ v = 2 ∨ v = 3 ∨ v = 4 ∨ v = 5 ∨ v = 6 ∨ v = 7 ∨ v = 8 ∨ v = 9 ∨ v = 10 := by omega
    rcases hv with rfl | rfl | rfl | rfl | rfl | rfl | rfl | rfl | rfl | rfl | rfl <;> exact ⟨_, _, _, _, rfl, k2.mono (by omega)⟩
theorem steps_ok {c : List Int} {t s : Int} {m : Nat} (h : Cu c t m) (hm : m ≤ 800000) : ∃ v t' s', spec_l1Cur_steps.f c t s = some (v, t', s') ∧ Cu c t' (m + 4) := by
  obtain ⟨o, t1, s1, e1, k1⟩ := one_ok (s := s) 10 h (by omega)
  unfold spec_l1Cur_steps.f
  rw [e1, Option.bind_some]
  cases o with
  | true =>
    obtain ⟨v, t2, s2, e2, _, k2⟩ := among_ok (s := s1) [(-1), 60, 61] (by simp) k1 (by omega)
    dsimp only
    rw [if_pos rfl, e2, Option.bind_some]
    exact ⟨_, _, _, rfl, k2⟩
  | false =>
    obtain ⟨v, t2, s2, e2, _, _, k2⟩ := pick_ok (s := s1) 14 k1 (by omega)
    dsimp only
    rw [if_neg (by simp), e2, Option.bind_some]
    exact ⟨_, _, _, rfl, k2⟩
def drB (a b : Int) : Bool := match spec_GaussOf.f 400 a b with
  | some g => (match spec_RemaindersOf.f 400 g.1 (wrap64 (a + b)) with
    | some r => decide (1 ≤ r.1.length) && decide (r.1.length ≤ 20)
    | none => false)
  | none => false
theorem dr_all : allSides drB = true := by decide +kernel
theorem dr_at {a b : Int} (hs : sidesB a b = true) : ∃ (g r : List Int × Bool), Ev (fun k => spec_GaussOf.f k a b) g ∧ Ev (fun k => spec_RemaindersOf.f k g.1 (wrap64 (a + b))) r ∧ 1 ≤ r.1.length ∧ r.1.length ≤ 20 := by
  have h := allSides_of dr_all hs
  unfold drB at h
  split at h
  · rename_i g e1
    split at h
    · rename_i r e2
      rw [Bool.and_eq_true, decide_eq_true_eq, decide_eq_true_eq] at h
      exact ⟨g, r, Ev.of (spec_GaussOf.mono _ _) e1, Ev.of (spec_RemaindersOf.mono _ _) e2, h.1, h.2⟩
    · cases h
  · cases h
def RestR (c : List Int) (m : Nat) (f : Nat → Option (List Int × Int × Int)) : Prop := ∃ (R : List Int) (t s : Int), R.length ≤ 100 ∧ Cu c t m ∧ Ev f (R, t, s)
theorem rests_l0 {c : List Int} : ∀ (d : Nat) (x : List Int) (t s : Int) (m : Nat), x.length + d ≤ 50 → Cu c t m → m + 2 * d ≤ 800000 → RestR c (m + 2 * d) (fun k => spec_l1Cur_rests.l0 k x (d : Int) c t s)
  | 0, x, t, s, m, h, hc, hm => ⟨x, t, s, by omega, hc, Ev.step (fun _ => spec_l1Cur_rests.l0.eq_2 ..) (ev_neg (by omega) (Ev.now _))⟩
  | d + 1, x, t, s, m, h, hc, hm => by
    obtain ⟨w, t1, s1, e1, w0, w1, k1⟩ := pick_ok (s := s) 9 hc (by omega)
    obtain ⟨R, t', s', g1, g2, e⟩ := rests_l0 (c := c) d (x ++ [w]) t1 s1 (m + 2) (by rw [List.length_append, List.length_singleton]; omega) k1 (by omega)
    refine ⟨R, t', s', g1, g2.mono (by omega), Ev.step (fun _ => spec_l1Cur_rests.l0.eq_2 ..) (ev_pos (by omega) (ev_call e1 (ev_pos (by omega) ?_)))⟩
    rw [show wrap64 (((d + 1 : Nat) : Int) - 1) = (d : Int) by rw [wrap_id (by omega) (by omega)]; omega]
    exact e
theorem rests_j0 {c : List Int} {t s : Int} {m : Nat} (a b : Int) (o : Bool) (hs : o = true ∨ sidesB a b = true) (h : Cu c t m) (hm : m ≤ 700000) : RestR c (m + 40) (fun k => spec_l1Cur_rests.j0 k a b o c t s) := by
  cases o with
  | true =>
    obtain ⟨w, t1, s1, e1, w0, w1, k1⟩ := pick_ok (s := s) 8 h (by omega)
    obtain ⟨n, rfl⟩ : ∃ n : Nat, w = (n : Int) := ⟨w.toNat, by omega⟩
    obtain ⟨R, t', s', g1, g2, e⟩ := rests_l0 (c := c) (1 + n) [] t1 s1 (m + 2) (by rw [List.length_nil]; omega) k1 (by omega)
    refine ⟨R, t', s', g1, g2.mono (by omega), Ev.step (fun _ => spec_l1Cur_rests.j0.eq_2 ..) (ev_pos rfl (ev_call e1 ?_))⟩
    dsimp only
    rw [one_plus n (by omega)]
    exact e
  | false =>
    have hs : sidesB a b = true := hs.resolve_left (by simp)
    obtain ⟨g, r, E1, E2, l1, l2⟩ := dr_at hs
    obtain ⟨w, t1, s1, e1, w0, w1, k1⟩ := pick_ok (s := s) 10 h (by omega)
    by_cases c0 : w = 0
    · obtain ⟨v, t2, s2, e2, v0, v1, k2⟩ := pick_ok (s := s1) (r.1.length : Int) k1 (by omega)
      obtain ⟨u, t3, s3, e3, hu, k3⟩ := among_ok (s := s2) [(-1), 0, 100000000, 100000001] (by simp) k2 (by omega)
      refine ⟨_, t3, s3, ?_, k3.mono (by omega), Ev.step (fun _ => spec_l1Cur_rests.j0.eq_2 ..) (ev_neg (by simp) (Ev.bind E1 (Ev.bind E2 (ev_call e1 (ev_pos c0 (ev_call e2 (ev_call e3 (ev_pos v0 (ev_pos (by omega) (Ev.now _))))))))))⟩
      dsimp only
      rw [List.length_set]; omega
    · by_cases c1 : w = 1
      · obtain ⟨v, t2, s2, e2, v0, v1, k2⟩ := pick_ok (s := s1) 2 k1 (by omega)
        have hw : wrap64 (60 + v) = 60 + v := wrap_id (by omega) (by omega)
        refine ⟨_, t2, s2, ?_, k2.mono (by omega), Ev.step (fun _ => spec_l1Cur_rests.j0.eq_2 ..) (ev_neg (by simp) (Ev.bind E1 (Ev.bind E2 (ev_call e1 (ev_neg c0 (ev_pos c1 (ev_call e2 (ev_pos (by rw [hw]; omega) (ev_pos (by rw [hw]; omega) (Ev.now _))))))))))⟩
        dsimp only
        rw [List.length_replicate, hw]; omega
      · exact ⟨r.1, t1, s1, by omega, k1.mono (by omega), Ev.step (fun _ => spec_l1Cur_rests.j0.eq_2 ..) (ev_neg (by simp) (Ev.bind E1 (Ev.bind E2 (ev_call e1 (ev_neg c0 (ev_neg c1 (Ev.now _)))))))⟩
theorem rests_ok {c : List Int} {t s : Int} {m : Nat} (h : Cu c t m) (hm : m ≤ 600000) : RestR c (m + 60) (fun k => spec_l1Cur_rests.f k c t s) := by
  obtain ⟨a, b, t1, s1, e1, k1⟩ := sides_ok (s := s) h (by omega)
  by_cases hs : sidesB a b = true
  · obtain ⟨o, t2, s2, e2, k2⟩ := one_ok (s := s1) 6 k1 (by omega)
    obtain ⟨R, t', s', g1, g2, e⟩ := rests_j0 (s := s2) a b o (.inr hs) k2 (by omega)
    exact ⟨R, t', s', g1, g2.mono (by omega), ev_call e1 (ev_call (shSides_eq a b) (ev_pos hs (ev_call e2 e)))⟩
  · obtain ⟨R, t', s', g1, g2, e⟩ := rests_j0 (s := s1) a b true (.inl rfl) k1 (by omega)
    exact ⟨R, t', s', g1, g2.mono (by omega), ev_call e1 (ev_call (shSides_eq a b) (ev_neg hs e))⟩
theorem drawSides {c : List Int} (h : Cu c 0 0) : ∃ a b : Int, spec_DrawCountTableaux.f c = some (a, b) := by
  obtain ⟨a, b, t1, s1, e1, k1⟩ := sides_ok (s := 0) h (by omega)
  unfold spec_DrawCountTableaux.f
  rw [e1, Option.bind_some]
  exact ⟨_, _, rfl⟩
theorem drawRowFixed {c : List Int} (h : Cu c 0 0) : ∃ a b d : Int, spec_DrawRowFixed.f c = some (a, b, d) := by
  obtain ⟨a, b, t1, s1, e1, k1⟩ := sides_ok (s := 0) h (by omega)
  obtain ⟨d, t2, s2, e2, k2⟩ := steps_ok (s := s1) k1 (by omega)
  unfold spec_DrawRowFixed.f
  rw [e1, Option.bind_some, e2, Option.bind_some]
  exact ⟨_, _, _, rfl⟩
theorem drawGaussOf {c : List Int} (h : Cu c 0 0) : ∃ a b : Int, spec_DrawGaussOf.f c = some (a, b) := by
  obtain ⟨a, b, e⟩ := drawSides h
  unfold spec_DrawGaussOf.f
  rw [e, Option.bind_some]
  exact ⟨_, _, rfl⟩
theorem drawValue {c : List Int} (h : Cu c 0 0) : ∃ (R : List Int) (e : Int), R.length ≤ 100 ∧ Ev (fun k => spec_DrawValueByRemainders.f k c) (R, e) := by
  obtain ⟨R, t', s', g1, g2, e⟩ := rests_ok (s := 0) h (by omega)
  obtain ⟨d, t2, s2, e2, k2⟩ := steps_ok (s := s') g2 (by omega)
  exact ⟨R, d, g1, Ev.bind e (ev_call e2 (Ev.now _))⟩
theorem drawRem_l0 {c : List Int} : ∀ (d : Nat) (x : List Int) (t s : Int) (m : Nat), 0 < x.length + d → x.length + d ≤ 50 → Cu c t m → m + 2 * d ≤ 700000 → ∃ (R : List Int) (n : Int), R.length ≤ 200 ∧ Ev (fun k => spec_DrawRemaindersOf.l0 k x (d : Int) c t s) (R, n)
  | 0, x, t, s, m, h0, h, hc, hm => by
    obtain ⟨w, t1, s1, e1, w0, w1, k1⟩ := pick_ok (s := s) 12 hc (by omega)
    by_cases c0 : w = 0
    · obtain ⟨u, t2, s2, e2, hu, k2⟩ := among_ok (s := s1) [(-1), 1000000, 1000001] (by simp) k1 (by omega)
      obtain ⟨n, t3, s3, e3, k3⟩ := steps_ok (s := s2) k2 (by omega)
      refine ⟨_, n, ?_, Ev.step (fun _ => spec_DrawRemaindersOf.l0.eq_2 ..) (ev_neg (by omega) (ev_call e1 (ev_pos c0 (ev_call e2 (ev_pos (by omega) (ev_call e3 (Ev.now _)))))))⟩
      rw [List.length_set]; omega
    · by_cases c1 : w = 1
      · obtain ⟨v, t2, s2, e2, v0, v1, k2⟩ := pick_ok (s := s1) 2 k1 (by omega)
        obtain ⟨n, t3, s3, e3, k3⟩ := steps_ok (s := s2) k2 (by omega)
        have hw : wrap64 (100 + v) = 100 + v := wrap_id (by omega) (by omega)
        refine ⟨_, n, ?_, Ev.step (fun _ => spec_DrawRemaindersOf.l0.eq_2 ..) (ev_neg (by omega) (ev_call e1 (ev_neg c0 (ev_pos c1 (ev_call e2 (ev_pos (by rw [hw]; omega) (ev_pos (by rw [hw]; omega) (ev_call e3 (Ev.now _)))))))))⟩
        dsimp only
        rw [List.length_replicate, hw]; omega
      · obtain ⟨n, t3, s3, e3, k3⟩ := steps_ok (s := s1) k1 (by omega)
        exact ⟨x, n, by omega, Ev.step (fun _ => spec_DrawRemaindersOf.l0.eq_2 ..) (ev_neg (by omega) (ev_call e1 (ev_neg c0 (ev_neg c1 (ev_call e3 (Ev.now _))))))⟩
  | d + 1, x, t, s, m, h0, h, hc, hm => by
    obtain ⟨w, t1, s1, e1, w0, w1, k1⟩ := pick_ok (s := s) 30 hc (by omega)
    obtain ⟨R, n, g1, e⟩ := drawRem_l0 (c := c) d (x ++ [w]) t1 s1 (m + 2) (by rw [List.length_append, List.length_singleton]; omega) (by rw [List.length_append, List.length_singleton]; omega) k1 (by omega)
    refine ⟨R, n, g1, Ev.step (fun _ => spec_DrawRemaindersOf.l0.eq_2 ..) (ev_pos (by omega) (ev_call e1 (ev_pos (by omega) ?_)))⟩
    rw [show wrap64 (((d + 1 : Nat) : Int) - 1) = (d : Int) by rw [wrap_id (by omega) (by omega)]; omega]
    exact e
theorem drawRemaindersOf {c : List Int} (h : Cu c 0 0) : ∃ (R : List Int) (n : Int), R.length ≤ 200 ∧ Ev (fun k => spec_DrawRemaindersOf.f k c) (R, n) := by
  obtain ⟨w, t1, s1, e1, w0, w1, k1⟩ := pick_ok (s := 0) 12 h (by omega)
  obtain ⟨d, rfl⟩ : ∃ d : Nat, w = (d : Int) := ⟨w.toNat, by omega⟩
  obtain ⟨R, n, g1, e⟩ := drawRem_l0 (c := c) (1 + d) [] t1 s1 (0 + 2) (by omega) (by rw [List.length_nil]; omega) k1 (by omega)
  refine ⟨R, n, g1, ev_call e1 ?_⟩
  dsimp only
  rw [one_plus d (by omega)]
  exact e
def sumI : List Int → Int
  | [] => 0
  | x :: l => x + sumI l
theorem sumI_set : ∀ (l : List Int) (i : Nat) (v : Int), i < l.length → sumI (l.set i v) = sumI l - rd l (i : Int) + v
  | [], i, v, h => by simp at h
  | x :: l, 0, v, h => by show v + sumI l = x + sumI l - x + v; omega
  | x :: l, i + 1, v, h => by
    have ih := sumI_set l i v (by simpa using h)
    have e : rd (x :: l) ((i + 1 : Nat) : Int) = rd l (i : Int) := by simp [rd]
    rw [List.set_cons_succ, e]
    show x + sumI (l.set i v) = x + sumI l - _ + v
    rw [ih]; omega
theorem sumI_zero : ∀ n : Nat, sumI (List.replicate n 0) = 0
  | 0 => rfl
  | n + 1 => by rw [List.replicate_succ]; show 0 + sumI _ = 0; rw [sumI_zero n]; rfl
theorem wrap_in (a b : Int) : wrap64 (wrap64 a + b) = wrap64 (a + b) := by unfold wrap64; omega
theorem oSum_l0 (l : List Int) (hl : l.length ≤ 1000000) : ∀ (d i : Nat) (s : Int), i + d = l.length → Ev (fun k => laws_oSum.l0 k (wrap64 s) l (l.length : Int) (i : Int)) (wrap64 (s + sumI (l.drop i)))
  | 0, i, s, h => by
    refine Ev.step (fun _ => laws_oSum.l0.eq_2 ..) (ev_neg (by omega) ?_)
    rw [List.drop_of_length_le (by omega)]
    show Ev _ (wrap64 (s + 0))
    rw [Int.add_zero]
    exact Ev.now _
  | d + 1, i, s, h => by
    refine Ev.step (fun _ => laws_oSum.l0.eq_2 ..) (ev_pos (by omega) (ev_pos (by omega) (ev_pos (by omega) ?_)))
    rw [wrap_succ (by omega), rd_get (by omega : i < l.length), wrap_in, List.drop_eq_getElem_cons (by omega : i < l.length)]
    have ih := oSum_l0 l hl d (i + 1) (s + l[i]) (by omega)
    show Ev _ (wrap64 (s + (l[i] + sumI _)))
    rw [← Int.add_assoc]
    exact ih
theorem oSum_ev (l : List Int) (hl : l.length ≤ 1000000) : Ev (fun k => laws_oSum.f k l) (wrap64 (sumI l)) := by
  have := oSum_l0 l hl l.length 0 0 (by omega)
  rw [List.drop_zero, Int.zero_add, show wrap64 0 = 0 by unfold wrap64; omega] at this
  exact this
theorem remsum_l0 (n : Nat) (hn : 1 ≤ n) (c : List Int) (hc : c.length ≤ 1000) : ∀ (d i : Nat) (acc : List Int), i + d = c.length → acc.length = n →
    ∃ r : List Int, wrap64 (sumI r) = wrap64 (sumI acc + sumI (c.drop i)) ∧ Ev (fun k => impl_RemaindersOf.l0 k (n : Int) acc c (c.length : Int) i) (r, true)
  | 0, i, acc, h, ha => ⟨acc, by rw [List.drop_of_length_le (by omega)]; show _ = wrap64 (sumI acc + 0); rw [Int.add_zero], Ev.step (fun _ => rfl) (ev_neg (by omega) (Ev.now _))⟩
  | d + 1, i, acc, h, ha => by
    have hm : i % n < n := Nat.mod_lt _ (by omega)
    obtain ⟨r, hr, h2⟩ := remsum_l0 n hn c hc d (i + 1) (acc.set (i % n) (wrap64 (rd acc ((i % n : Nat) : Int) + rd c i))) (by omega) (by simp [ha])
    refine ⟨r, ?_, Ev.step (fun _ => impl_RemaindersOf.l0.eq_2 ..) ?_⟩
    · rw [hr, sumI_set _ _ _ (by omega), List.drop_eq_getElem_cons (by omega : i < c.length), rd_get (by omega : i < c.length)]
      show wrap64 _ = wrap64 (sumI acc + (c[i] + sumI _))
      generalize rd acc ((i % n : Nat) : Int) = u
      generalize sumI (c.drop (i + 1)) = v
      generalize c[i] = z
      generalize sumI acc = y
      unfold wrap64; omega
    · rw [tmod_nat, wrap_succ (by omega)]
      refine ev_pos (by omega) (ev_pos (by omega) (ev_pos (by omega) (ev_neg (by omega) (ev_pos (by omega) (ev_pos (by omega) ?_)))))
      rw [Int.toNat_natCast]; exact h2
theorem remsum (c : List Int) (n : Int) (hl : c.length ≤ 2000000) : ∃ r : List Int × Bool, Ev (fun k => impl_RemaindersOf.f k c n) r ∧ (r.2 = true → wrap64 (sumI r.1) = wrap64 (sumI c)) := by
  have hfail : Ev (fun k => impl_RemaindersOf.j0 k c n true) ([], false) := Ev.step (fun _ => impl_RemaindersOf.j0.eq_2 ..) (ev_pos rfl (Ev.now _))
  by_cases h1 : inB (c.length : Int) 1 100 = true
  · by_cases h2 : c.all (inB · 0 1000000) = true
    · by_cases h3 : inB n 1 60 = true
      · have b1 := inB_iff.mp h1
        have b3 := inB_iff.mp h3
        obtain ⟨m, rfl⟩ : ∃ m : Nat, n = m := ⟨n.toNat, by omega⟩
        obtain ⟨r, hr, e2⟩ := remsum_l0 m (by omega) c (by omega) c.length 0 (List.replicate m 0) (by omega) (by simp)
        refine ⟨(r, true), ?_, fun _ => ?_⟩
        · refine ev_call (within_eq _ _ _) (ev_pos h1 (ev_call (areUpTo_eq c _ (by omega)) (ev_pos h2 (ev_call (isTurn_eq _) ?_))))
          rw [h3]
          exact Ev.step (fun _ => impl_RemaindersOf.j0.eq_2 ..) (ev_neg (by simp) (ev_pos (by omega) (ev_pos (by omega) (by simpa using e2))))
        · rw [sumI_zero, Int.zero_add, List.drop_zero] at hr
          exact hr
      · refine ⟨([], false), ?_, fun h => by cases h⟩
        refine ev_call (within_eq _ _ _) (ev_pos h1 (ev_call (areUpTo_eq c _ (by omega)) (ev_pos h2 (ev_call (isTurn_eq _) ?_))))
        rw [Bool.eq_false_iff.mpr h3]; exact hfail
    · exact ⟨([], false), ev_call (within_eq _ _ _) (ev_pos h1 (ev_call (areUpTo_eq c _ (by omega)) (ev_neg h2 hfail))), fun h => by cases h⟩
  · exact ⟨([], false), ev_call (within_eq _ _ _) (ev_neg h1 hfail), fun h => by cases h⟩
end Go.Proofs.YtkgngggppcmpfaaGreat.M
end
section
namespace Go.Proofs.YtkgngggppcmpfaaGreat.M
open Go.RowKit Go.Proofs.YtkgngggppcmpfaaGreatW.PrintWords Go.Proofs.YtkgngggppcmpfaaGreatW.PrintLast Go.Proofs.YtkgngggppcmpfaaGreatW.PrintMore Go.Proofs.YtkgngggppcmpfaaGreat.L
end Go.Proofs.YtkgngggppcmpfaaGreat.M
end
section
namespace Go.Proofs.YtkgngggppcmpfaaGreat.M
open Go.RowKit Go.Proofs.YtkgngggppcmpfaaGreatW.PrintWords Go.Proofs.YtkgngggppcmpfaaGreatW.PrintLast Go.Proofs.YtkgngggppcmpfaaGreatW.PrintMore Go.Proofs.YtkgngggppcmpfaaGreat.L
set_option linter.unusedVariables false
theorem big_eq (a b : List Int) : ∃ v, laws_big.f a b = some v ∧ (v = false → a.length ≤ 1048576 ∧ b.length ≤ 1048576) := by
  unfold laws_big.f
  by_cases h : (a.length : Int) > 1048576
  · rw [if_pos h]; exact ⟨true, rfl, fun e => by cases e⟩
  · rw [if_neg h]
    refine ⟨_, rfl, fun e => ?_⟩
    rw [decide_eq_false_iff_not, wrap_id (by omega) (by omega)] at e
    omega
theorem cons_decO {x y : Int} {a b : List Int} (e : x = y) : decide (x :: a = y :: b) = decide (a = b) := decide_eq_decide.mpr ⟨fun z => (List.cons.inj z).2, fun z => by rw [e, z]⟩
theorem oSame_l0 (a b : List Int) (hl : a.length ≤ 1000000) (hab : a.length = b.length) : ∀ (d i : Nat), i + d = a.length → Ev (fun k => laws_oSame.l0 k a b (a.length : Int) (i : Int)) (decide (a.drop i = b.drop i))
  | 0, i, h => by
    refine Ev.step (fun _ => laws_oSame.l0.eq_2 ..) (ev_neg (by omega) ?_)
    rw [List.drop_of_length_le (by omega), List.drop_of_length_le (by omega)]
    exact Ev.now _
  | d + 1, i, h => by
    refine Ev.step (fun _ => laws_oSame.l0.eq_2 ..) (ev_pos (by omega) (ev_pos (by omega) (ev_pos (by omega) (ev_pos (by omega) ?_))))
    rw [wrap_succ (by omega), rd_get (by omega : i < a.length), rd_get (by omega : i < b.length)]
    rw [List.drop_eq_getElem_cons (by omega : i < a.length), List.drop_eq_getElem_cons (by omega : i < b.length)]
    refine ev_ite (fun e => ?_) (fun e => ?_)
    · rw [cons_decO e]; exact oSame_l0 a b hl hab d (i + 1) (by omega)
    · rw [decide_eq_false fun h => e (List.cons.inj h).1]; exact Ev.now false
theorem oSame_ev (a b : List Int) (hl : a.length ≤ 1000000) : Ev (fun k => laws_oSame.f k a b) (decide (a = b)) := by
  refine ev_ite (fun e => ?_) (fun e => ?_)
  · have := oSame_l0 a b hl (by omega) a.length 0 (by omega)
    rw [List.drop_zero, List.drop_zero] at this
    exact this
  · rw [decide_eq_false fun h => e (by rw [h])]; exact Ev.now false
theorem oSame_refl (a : List Int) (hl : a.length ≤ 1000000) : Ev (fun k => laws_oSame.f k a a) true := by simpa using oSame_ev a a hl
end Go.Proofs.YtkgngggppcmpfaaGreat.M
end
section
namespace Go.Proofs.YtkgngggppcmpfaaGreat.M
open Go.RowKit Go.Proofs.YtkgngggppcmpfaaGreatW.PrintWords Go.Proofs.YtkgngggppcmpfaaGreatW.PrintLast Go.Proofs.YtkgngggppcmpfaaGreatW.PrintMore Go.Proofs.YtkgngggppcmpfaaGreat.L
set_option linter.unusedVariables false
theorem sr_at {a b : Int} (hs : sidesB a b = true) : ∃ (ls : List Int) (hk : List Int), impl_rowLengths.f 1200 a b = some ls ∧ impl_GaussOf.f 1200 a b = some (hk, true) ∧ (∀ l ∈ ls, l ≠ 0) ∧ ls.length ≤ 1000 ∧
    impl_sorted.sort (ls.map (stabG (wrap64 (a + b)))) = stO ls (wrap64 (a + b)) ∧ vlRest (wrap64 (a + b)) ls hk = true ∧ laws_FnSievesOfRows.j3 1200 a b hk true (stO ls (wrap64 (a + b))) false = some true := by
  have h := sr_of hs
  unfold srB at h
  split at h
  · rename_i ls hk e1 e2
    rw [Bool.and_eq_true, Bool.and_eq_true, Bool.and_eq_true, Bool.and_eq_true, Bool.and_eq_true, Bool.and_eq_true, decide_eq_true_eq, List.all_eq_true, List.isPerm_iff, beq_iff_eq] at h
    obtain ⟨⟨⟨⟨⟨⟨g1, g2⟩, g3⟩, g4⟩, g5⟩, g6⟩, g7⟩ := h
    refine ⟨ls, hk.1, e1, ?_, fun l hl => by have := g1 l hl; rwa [bne_iff_ne] at this, g2, sort_eq (upB_sorted _ g3) g4, g6, g7⟩
    rw [e2, show hk = (hk.1, hk.2) from rfl, g5]
  · cases h
theorem rs_val {a b : Int} (hs : sidesB a b = true) {ls : List Int} (h2 : impl_rowLengths.f 1200 a b = some ls) (g2 : ∀ l ∈ ls, l ≠ 0) (g3 : ls.length ≤ 1000) {o : List Int} (e : impl_sorted.sort (ls.map (stabG (wrap64 (a + b)))) = o) :
    Ev (fun k => impl_RowStabilizers.f k a b) (o, true) := by
  refine ev_call (areSides_eq a b) (ev_pos hs (Ev.bind (Ev.of (impl_rowLengths.mono a b) h2) ?_))
  have hl0 := stab_l0 (wrap64 (a + b)) ls g2 g3 ls.length 0 [] (by omega) rfl
  rw [List.drop_zero, List.nil_append, e] at hl0
  exact Ev.bind hl0 (Ev.now _)
theorem rs_no {a b : Int} (hs : ¬ sidesB a b = true) : Ev (fun k => impl_RowStabilizers.f k a b) ([], false) := ev_call (areSides_eq a b) (ev_neg hs (Ev.now _))
theorem gs_no {a b : Int} (h : ¬ sidesB a b = true) : Ev (fun k => impl_GaussOf.f k a b) ([], false) := Ev.bind (a := ([], false)) (ev_call (areSides_eq a b) (ev_neg h (Ev.now _))) (ev_neg (by simp) (Ev.now _))
theorem rf_val {a b : Int} {d : Nat} (hs : sidesB a b = true) (hd : d ≤ 60) {ls : List Int} {w : Int} (hL : impl_rowLengths.f 1200 a b = some ls) (hc : impl_fixed.f 1200 ls (d : Int) = some w) : Ev (fun k => impl_RowFixed.f k a b (d : Int)) (w, true) := by
  refine ev_call (areSides_eq a b) (ev_pos hs (ev_call (within_eq _ _ _) ?_))
  rw [show inB (d : Int) 0 60 = true from inB_iff.mpr (by omega)]
  exact Ev.step (fun _ => impl_RowFixed.j0.eq_2 ..) (ev_neg (by simp) (Ev.bind (Ev.of (impl_rowLengths.mono _ _) hL) (Ev.bind (Ev.of (impl_fixed.mono _ _) hc) (Ev.now _))))
theorem rf_no {a b d : Int} (h : ¬ (sidesB a b = true ∧ inB d 0 60 = true)) : Ev (fun k => impl_RowFixed.f k a b d) (0, false) := by
  refine ev_call (areSides_eq a b) (ev_ite (fun hs => ev_call (within_eq _ _ _) ?_) (fun hs => Ev.step (fun _ => impl_RowFixed.j0.eq_2 ..) (ev_pos rfl (Ev.now _))))
  rw [Bool.eq_false_iff.mpr fun e => h ⟨hs, e⟩]
  exact Ev.step (fun _ => impl_RowFixed.j0.eq_2 ..) (ev_pos rfl (Ev.now _))
theorem sr_j3 {a b : Int} {g st : List Int} {fine : Bool} (H : fine = true → sidesB a b = true ∧ Ev (fun k => impl_GaussOf.f k a b) (g, true) ∧ Ev (fun k => impl_RowStabilizers.f k a b) (st, true)) : Ev (fun k => laws_FnSievesOfRows.j3 k a b g fine st false) true := by
  cases fine with
  | false => exact Ev.step (fun _ => laws_FnSievesOfRows.j3.eq_2 ..) (ev_neg (by simp) (ev_neg (by simp) (Ev.now _)))
  | true =>
    obtain ⟨hs, hg, hp⟩ := H rfl
    obtain ⟨ls, hk, e1, e2, g1, g2, g3, g4, g5⟩ := sr_at hs
    have est := ev_det hp (rs_val hs e1 g1 g2 g3)
    injection est with est _
    subst est
    have eg := ev_det hg (Ev.of (impl_GaussOf.mono _ _) e2)
    injection eg with eg _
    subst eg
    exact Ev.of (fun k => (laws_FnSievesOfRows.mono_l k).2.2.2.1 _ _ _ _ _ _) g5
theorem sr_j2 {c : List Int} (hc : Cu c 0 0) {a b : Int} {g st : List Int} {fine : Bool} (J : Ev (fun k => laws_FnSievesOfRows.j3 k a b g fine st false) true) : Ev (fun k => laws_FnSievesOfRows.j2 k c a b g fine st) true := by
  obtain ⟨R, n, hR, e1⟩ := drawRemaindersOf hc
  obtain ⟨r, hr, s1, i1⟩ := remainders R n (by omega)
  obtain ⟨r', i1', hsum⟩ := remsum R n (by omega)
  have er := ev_det i1' i1
  subst er
  obtain ⟨X, d, hX, e2⟩ := drawValue hc
  obtain ⟨v, s2, i2⟩ := agree_FnExactValueByRemainders X d (by omega)
  refine Ev.step (fun _ => laws_FnSievesOfRows.j2.eq_2 ..) (Ev.bind e1 (Ev.bind i1 (Ev.bind s1 (Ev.bind e2 (Ev.bind i2 (Ev.bind s2 (ev_neg (by simp) (Ev.bind (oSame_refl _ (by omega)) (ev_pos rfl (ev_neg (by simp) (ev_pos rfl (ev_ite (fun c => ?_) (fun c => J)))))))))))))
  refine Ev.bind (oSum_ev _ (by omega)) (Ev.bind (oSum_ev _ (by dsimp only; omega)) ?_)
  rw [hsum c, show (wrap64 (sumI R) != wrap64 (sumI R)) = false by simp]
  exact J
theorem sr_j0 {c : List Int} (hc : Cu c 0 0) {a b : Int} {g st : List Int} {fine : Bool} (J : Ev (fun k => laws_FnSievesOfRows.j3 k a b g fine st false) true) : Ev (fun k => laws_FnSievesOfRows.j0 k c a b g fine st false) true := by
  obtain ⟨x, y, d, e1⟩ := drawRowFixed hc
  obtain ⟨r, s1, i1⟩ := agree_FnExactRowFixed x y d
  have J2 := sr_j2 hc J
  refine Ev.step (fun _ => laws_FnSievesOfRows.j0.eq_2 ..) (ev_neg (by simp) (ev_call e1 (Ev.bind i1 (Ev.bind s1 (ev_neg (by simp) ?_)))))
  rw [show (r.1 != r.1) = false by simp]
  refine Ev.step (fun _ => laws_FnSievesOfRows.j1.eq_2 ..) (ev_neg (by simp) (ev_ite (fun ht => ?_) (fun ht => J2)))
  by_cases h : sidesB x y = true ∧ inB d 0 60 = true
  · obtain ⟨hs, hd⟩ := h
    have bd := inB_iff.mp hd
    obtain ⟨d, rfl⟩ : ∃ n : Nat, d = (n : Int) := ⟨d.toNat, by omega⟩
    obtain ⟨ls, hk, e2, e3, g1, g2, g3, g4, g5⟩ := sr_at hs
    unfold vlRest at g4
    split at g4
    · rename_i rr e4
      rw [Bool.and_eq_true, List.all_eq_true] at g4
      have h5 := g4.2 d (List.mem_range.mpr (by omega))
      split at h5
      · rename_i v w e5 e6
        rw [Bool.and_eq_true, beq_iff_eq] at h5
        have er := ev_det i1 (rf_val hs (by omega) e2 e6)
        refine Ev.bind (Ev.of (impl_GaussOf.mono _ _) e3) (Ev.bind (Ev.of (impl_RemaindersOf.mono _ _) e4) (Ev.bind (Ev.of (impl_ValueByRemainders.mono _ _) e5) (ev_pos rfl (ev_pos g4.1 (ev_pos h5.1 (ev_pos ?_ J2))))))
        rw [er]; exact h5.2
      · cases h5
    · cases g4
  · have er := ev_det i1 (rf_no h)
    rw [er] at ht
    cases ht
theorem pFnSievesOfRows : laws_FnSievesOfRows.Pure := by
  intro l0 l1 h1 h2 hb h3 h4 hb1
  refine Ev.rounds ?_
  obtain ⟨v, hv, hl⟩ := big_eq l0 l1
  cases v with
  | true => exact ev_call hv (ev_pos rfl (Ev.now _))
  | false =>
    have hl := hl rfl
    have c0 := cu_start hl.1 hb
    have c1 := cu_start hl.2 hb1
    obtain ⟨a, b, e1⟩ := drawGaussOf c0
    obtain ⟨r, hr, hs, hi⟩ := agree_FnExactGaussOf a b
    obtain ⟨q, hq, qs, qi⟩ := agree_FnExactRowStabilizers a b
    have hflag : r.2 = sidesB a b ∧ q.2 = sidesB a b := by
      by_cases hd : sidesB a b = true
      · obtain ⟨ls, hk, e1, e2, g1, g2, g3, g4, g5⟩ := sr_at hd
        rw [ev_det hi (Ev.of (impl_GaussOf.mono _ _) e2), ev_det qi (rs_val hd e1 g1 g2 g3), hd]
        exact ⟨rfl, rfl⟩
      · rw [ev_det hi (gs_no hd), ev_det qi (rs_no hd), Bool.eq_false_iff.mpr hd]
        exact ⟨rfl, rfl⟩
    refine ev_call hv (ev_neg (by simp) (ev_call e1 (Ev.bind hi (Ev.bind hs (Ev.bind qi (Ev.bind qs (ev_neg (by simp) (Ev.bind (oSame_refl _ (by omega)) (ev_pos rfl (ev_neg (by simp) (Ev.bind (oSame_refl _ (by omega)) (ev_pos rfl ?_))))))))))))
    rw [show (q.2 != r.2) = false by rw [hflag.1, hflag.2]; simp]
    refine sr_j0 c1 (sr_j3 fun hf => ?_)
    have hd : sidesB a b = true := by rw [← hflag.1]; exact hf
    refine ⟨hd, ?_, ?_⟩
    · rw [show ((r.1, true) : List Int × Bool) = r by rw [← hf]]
      exact hi
    · rw [show ((q.1, true) : List Int × Bool) = q by rw [← hd, ← hflag.2]]
      exact qi
end Go.Proofs.YtkgngggppcmpfaaGreat.M
namespace Go.Proofs.YtkgngggppcmpfaaGreat.Pure
open Go.Proofs.YtkgngggppcmpfaaGreat.L
theorem FnSievesOfRows : laws_FnSievesOfRows.Pure := Go.Proofs.YtkgngggppcmpfaaGreat.M.pFnSievesOfRows
end Go.Proofs.YtkgngggppcmpfaaGreat.Pure
end
