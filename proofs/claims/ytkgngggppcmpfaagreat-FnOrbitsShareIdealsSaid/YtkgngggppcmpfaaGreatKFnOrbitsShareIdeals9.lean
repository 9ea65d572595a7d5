/- Laws about the given program: the law FnOrbitsShareIdeals answers true for every input that its row lets in; no condition is added to the given statement. Contracts of the Go functions that it reaches, and the plain proof over lists. -/
import Derived.Test.YtkgngggppcmpfaaGreatWFnOrbitsShareIdeals0
import Derived.Test.YtkgngggppcmpfaaGreatKFnOrbitsShareIdeals0
import Derived.Test.YtkgngggppcmpfaaGreatKFnOrbitsShareIdeals1
import Derived.Test.YtkgngggppcmpfaaGreatKFnOrbitsShareIdeals2
import Derived.Test.YtkgngggppcmpfaaGreatKFnOrbitsShareIdeals3
import Derived.Test.YtkgngggppcmpfaaGreatKFnOrbitsShareIdeals4
import Derived.Test.YtkgngggppcmpfaaGreatKFnOrbitsShareIdeals5
import Derived.Test.YtkgngggppcmpfaaGreatKFnOrbitsShareIdeals6
import Derived.Test.YtkgngggppcmpfaaGreatKSF
import Derived.Test.YtkgngggppcmpfaaGreatKFnOrbitsShareIdeals8
section
namespace Go.Proofs.YtkgngggppcmpfaaGreat.M
open Go.RowKit Go.Proofs.YtkgngggppcmpfaaGreatW.PrintWords Go.Proofs.YtkgngggppcmpfaaGreatW.PrintLast Go.Proofs.YtkgngggppcmpfaaGreatW.PrintMore Go.Proofs.YtkgngggppcmpfaaGreat.L
set_option linter.unusedVariables false
theorem Qmj {p : List Nat} (g : Good p) {n : Nat} (hn : n ≤ 1000) : ∀ (d i s : Nat), i + d = n → IsId p s → Ev (fun k => Qbg.l0 k (s : Int) (n : Int) (n : Int) (i : Int) (toI p)) ((itr (row p) d s : Nat) : Int)
 | 0, i, s, h, hs => by
  have e : mx (wrap64 (-(n : Int))) 0 = 0 := by
   rw [Qdy (by omega) (by omega)]; unfold mx; split <;> omega
  refine Ev.step (fun _ => Qbg.l0.eq_2 ..) (Qbh (by omega) ?_)
  rw [e]
  exact Ev.step (fun _ => Qbg.l1.eq_2 ..) (Qbh (by omega) (Ev.now _))
 | d + 1, i, s, h, hs => by
  refine Ev.step (fun _ => Qbg.l0.eq_2 ..) (Qk (by omega) (Ev.bind (Qjp g hs.1) ?_))
  rw [Qca (by omega), Qfa (row p) 1 s d]
  exact Qmj g hn d (i + 1) (row p s) (by omega) (Qhx g hs)
section
variable {p : List Nat} (g : Good p) {s : Nat} (hs : IsId p s)
include g hs
theorem Qkk {n : Nat} (hn : n ≤ 1000) : Ev (fun k => Qb2.f k (toI p) (s : Int) (n : Int)) (((itr (row p) n s : Nat) : Int), true) := by
 have h := Qmj g hn n 0 s (Nat.zero_add _) hs
 have hb : Ev (fun k => Qbg.f k (toI p) (s : Int) (n : Int)) ((itr (row p) n s : Nat) : Int) := by
  unfold Qbg.f
  rw [show mx (n : Int) 0 = (n : Int) by unfold mx; split <;> omega]
  exact h
 exact Ev.bind (Qg5 _ _) (Qk (idB_mk g hs) (Qbk (Qff _ _ _) (Qk (by rw [Qd8]; omega) (Ev.bind hb (Ev.now _)))))
theorem rowm_val : Ev (fun k => Qdi.f k (toI p) (s : Int)) (((row p s : Nat) : Int), true) :=
 Ev.bind (Qkk g hs (n := 1) (by omega)) (Ev.now _)
end
end Go.Proofs.YtkgngggppcmpfaaGreat.M
end
section
namespace Go.Proofs.YtkgngggppcmpfaaGreat.M
open Go.RowKit Go.Proofs.YtkgngggppcmpfaaGreatW.PrintWords Go.Proofs.YtkgngggppcmpfaaGreatW.PrintLast Go.Proofs.YtkgngggppcmpfaaGreatW.PrintMore Go.Proofs.YtkgngggppcmpfaaGreat.L
set_option linter.unusedVariables false
def orbs (p : List Nat) : List (List Nat) := cycF (row p) ((idls p).length + 1) (idls p) []
section
variable {p : List Nat} (g : Good p)
include g
theorem Qgz : ∀ s ∈ idls p, row p s ∈ idls p := fun s hs => Qdb.mpr (Qhx g (Qdb.mp hs))
theorem Qg9 : Inj (idls p) (row p) := fun s hs t ht e => Qj1 g (Qdb.mp hs) (Qdb.mp ht) e
theorem Qg8 : ∀ o ∈ orbs p, IsCyc (idls p) (row p) o := (Qkz (Qja p) (Qgz g) (Qg9 g) (Nat.lt_succ_self _)).1
theorem Qhs : (orbs p).flatten.Perm (idls p) := (Qkz (Qja p) (Qgz g) (Qg9 g) (Nat.lt_succ_self _)).2
theorem Qeo : (orbs p).length ≤ 1024 := by
 have := Qgb (f := row p) (N := (idls p).length + 1) (idls p) []
 have := Qek g
 unfold orbs; omega
theorem Qmg {o : List Nat} (ho : o ∈ orbs p) {y : Nat} (hy : y ∈ o) : y ∈ idls p := (Qhs g).mem_iff.mp (List.mem_flatten.mpr ⟨o, ho, hy⟩)
theorem Qh7 {o : List Nat} (ho : o ∈ orbs p) : o.length ≤ 1024 := by
 have := Qek g
 have := Qdz (Qg8 g o ho).nd (fun y hy => Qmg g ho hy)
 omega
theorem Qjy {o : List Nat} (ho : o ∈ orbs p) : 0 < o.length := by
 obtain ⟨x, n, _, hn, _, e⟩ := (Qg8 g o ho).ex
 rw [e, Qgs]; exact hn
theorem Qew : Ev (fun k => Qbm.f k (toI p)) ((orbs p).map toI) := by
 have gl := Qek g
 have gp := Qeu g
 have hb : ∀ s ∈ idls p, s ≤ 1000000 := fun s hs => by have := (Qdb.mp hs).1; omega
 exact Ev.bind (Qf5 g) (Qk (by rw [toI_len]; omega) (Qhb (M := fun k x => Qbo.f k (toI p) x) (fun s hs => Qjp g (Qdb.mp hs).1) (Qgz g) (by omega) hb))
theorem Qfw : Ev (fun k => Qba.f k ((orbs p).map toI)) (lens (orbs p)) := by
 have := Qeo g
 have h := Qje ((orbs p).map toI) (by rw [List.length_map]; omega)
 rwa [Qis] at h
end
theorem no_rows : Qi0 (([], false) : List (List Int) × Bool).1 := ⟨Nat.zero_le _, fun x hx => by cases hx⟩
theorem Qi2 (l : List Int) : ∃ r : List (List Int) × Bool, Qi0 r.1 ∧ Ev (fun k => Qda.f k l) r ∧ Ev (fun k => Qc8.f k l) r ∧ (∀ p, l = toI p → Good p → r = ((orbs p).map toI, true)) ∧ (r.2 = true → ∃ p, l = toI p ∧ Good p) := by
 by_cases h : Qel l = true
 ·
  obtain ⟨p, rfl, g⟩ := Qee h
  refine ⟨((orbs p).map toI, true), ⟨?_, ?_⟩, Ev.bind (Qdg _) (Qk h (Ev.bind (Qk8 g) (Ev.now _))), Ev.bind (Qdw _) (Qk h (Ev.bind (Qew g) (Ev.now _))), fun p' e g' => by rw [Qj4 e], fun _ => ⟨p, rfl, g⟩⟩
  ·
   rw [List.length_map]; have := Qeo g; omega
  ·
   intro x hx
   obtain ⟨o, ho, rfl⟩ := List.mem_map.mp hx
   rw [toI_len]; have := Qh7 g ho; omega
 ·
  exact ⟨([], false), no_rows, Ev.bind (Qdg _) (Qbh h (Ev.now _)), Ev.bind (Qdw _) (Qbh h (Ev.now _)), fun p e g' => absurd (by rw [e]; exact Qes g') h, fun e => by cases e⟩
theorem Qfr (c : List (List Nat)) : (lens c).length = c.length := by unfold lens; rw [List.length_map]
theorem Qhh (l : List Int) : ∃ r : List Int × Bool, r.1.length ≤ 100000 ∧ Ev (fun k => Qcr.f k l) r ∧ Ev (fun k => Qcp.f k l) r ∧ (∀ p, l = toI p → Good p → r = (lens (orbs p), true)) ∧ (r.2 = Qel l) := by
 by_cases h : Qel l = true
 ·
  obtain ⟨p, rfl, g⟩ := Qee h
  refine ⟨(lens (orbs p), true), ?_, Ev.bind (Qdg _) (Qk h (Ev.bind (Qfn g) (Ev.now _))), Ev.bind (Qdw _) (Qk h (Ev.bind (Qew g) (Ev.bind (Qfw g) (Ev.now _)))), fun p' e g' => by rw [Qj4 e], h.symm⟩
  rw [Qfr]; have := Qeo g; omega
 ·
  exact ⟨([], false), Nat.zero_le _, Ev.bind (Qdg _) (Qbh h (Ev.now _)), Ev.bind (Qdw _) (Qbh h (Ev.now _)), fun p e g' => absurd (by rw [e]; exact Qes g') h, (Bool.eq_false_iff.mpr h).symm⟩
theorem Qjs {i n : Nat} : Int.tmod (i : Int) (n : Int) = ((i % n : Nat) : Int) := by rw [Int.ofNat_tmod]
theorem tdivN {i n : Nat} : Int.tdiv (i : Int) (n : Int) = ((i / n : Nat) : Int) := by rw [Int.ofNat_tdiv]
theorem Qk2 (a b : Nat) (hb : b ≠ 0) : Nat.gcd b (a % b) = Nat.gcd a b := by rw [Nat.gcd_comm a b, Nat.gcd_comm b (a % b), ← Nat.gcd_rec]
theorem gcd_l0 : ∀ (n a b : Nat), b < n → Ev (fun k => Qcv.l0 k (a : Int) (b : Int)) ((Nat.gcd a b : Nat) : Int)
 | 0, a, b, h => absurd h (Nat.not_lt_zero _)
 | n + 1, a, b, h => by
  by_cases c : b = 0
  ·
   subst c
   rw [Nat.gcd_zero_right]
   exact Ev.step (fun _ => Qcv.l0.eq_2 ..) (Qk rfl (Ev.now _))
  ·
   refine Ev.step (fun _ => Qcv.l0.eq_2 ..) (Qbh (by omega) ?_)
   rw [Qjs, ← Qk2 a b c]
   exact gcd_l0 n b (a % b) (by have := Nat.mod_lt a (Nat.pos_of_ne_zero c); omega)
theorem gcd_ev (a b : Nat) : Ev (fun k => Qcv.f k (a : Int) (b : Int)) ((Nat.gcd a b : Nat) : Int) := gcd_l0 (b + 1) a b (Nat.lt_succ_self b)
theorem Qkj : ∀ (n a b : Nat), b < n → Ev (fun k => Qcb.f k (a : Int) (b : Int)) ((Nat.gcd a b : Nat) : Int)
 | 0, a, b, h => absurd h (Nat.not_lt_zero _)
 | n + 1, a, b, h => by
  by_cases c : b = 0
  ·
   subst c
   rw [Nat.gcd_zero_right]
   exact Ev.step (fun _ => Qcb.f.eq_2 ..) (Qk rfl (Ev.now _))
  ·
   refine Ev.step (fun _ => Qcb.f.eq_2 ..) (Qbh (by omega) ?_)
   rw [Qjs, ← Qk2 a b c]
   exact Ev.bind (Qkj n b (a % b) (by have := Nat.mod_lt a (Nat.pos_of_ne_zero c); omega)) (Ev.now _)
theorem tgGcd_ev (a b : Nat) : Ev (fun k => Qcb.f k (a : Int) (b : Int)) ((Nat.gcd a b : Nat) : Int) := Qkj (b + 1) a b (Nat.lt_succ_self b)
def ordF (M out : Nat) : List Nat → Nat × Bool
 | [] => (out, true)
 | n :: l => if M < Nat.lcm out n then (0, false) else ordF M (Nat.lcm out n) l
theorem Qld (M : Nat) : ∀ (l : List Nat) (out : Nat), (ordF M out l).2 = true → out ∣ (ordF M out l).1 ∧ ∀ n ∈ l, n ∣ (ordF M out l).1
 | [], out, h => ⟨Nat.dvd_refl _, fun n hn => by cases hn⟩
 | n :: l, out, h => by
  rw [ordF] at h ⊢
  by_cases c : M < Nat.lcm out n
  ·
   rw [if_pos c] at h; cases h
  ·
   rw [if_neg c] at h ⊢
   obtain ⟨h1, h2⟩ := Qld M l _ h
   refine ⟨Nat.dvd_trans (Nat.dvd_lcm_left _ _) h1, fun m hm => ?_⟩
   rcases List.mem_cons.mp hm with rfl | hm
   ·
    exact Nat.dvd_trans (Nat.dvd_lcm_right _ _) h1
   ·
    exact h2 m hm
theorem Qmc {out n : Nat} (ho : 0 < out) (hn : 0 < n) : out * (n / Nat.gcd out n) = Nat.lcm out n ∧ out / Nat.gcd out n * n = Nat.lcm out n ∧ 0 < Nat.gcd out n ∧ 0 < n / Nat.gcd out n ∧ 0 < Nat.lcm out n := by
 have hg := Nat.gcd_pos_of_pos_left n ho
 refine ⟨?_, ?_, hg, Nat.div_pos (Nat.le_of_dvd hn (Nat.gcd_dvd_right _ _)) hg, Nat.lcm_pos ho hn⟩
 ·
  rw [← Nat.mul_div_assoc _ (Nat.gcd_dvd_right _ _)]; rfl
 ·
  rw [Nat.div_mul_right_comm (Nat.gcd_dvd_left _ _)]; rfl
theorem gt_iff {M q a L : Nat} (hq : 0 < q) (e : a * q = L) : (a : Int) > ((M / q : Nat) : Int) ↔ M < L := by
 rw [← e, ← Nat.div_lt_iff_lt_mul hq]
 exact Int.ofNat_lt
theorem Qib {x : Nat} (h : x ≤ 9223372036854775807) : wrap64 (x : Int) = (x : Int) := Qdy (by omega) (by omega)
theorem Qj9 (M : Nat) (hM : M ≤ 1000000000000000) (ls : List Nat) (hp : ∀ n ∈ ls, 0 < n ∧ n ≤ 100000) (hl : ls.length ≤ 100000) : ∀ (d i out : Nat), i + d = ls.length → 0 < out → out ≤ M →
  Ev (fun k => Qcg.l0 k (M : Int) (out : Int) (toI ls) ((toI ls).length : Int) (i : Int)) ((((ordF M out (ls.drop i)).1 : Nat) : Int), (ordF M out (ls.drop i)).2)
 | 0, i, out, h, ho, hm => by
  refine Ev.step (fun _ => Qcg.l0.eq_2 ..) (Qbh (by rw [toI_len]; omega) ?_)
  rw [List.drop_of_length_le (by omega)]
  exact Ev.now _
 | d + 1, i, out, h, ho, hm => by
  have hi : i < ls.length := by omega
  have hr : rd (toI ls) (i : Int) = ((ls[i] : Nat) : Int) := by rw [Qeq]; simp [List.getD_eq_getElem?_getD, hi]
  obtain ⟨p1, p2⟩ := hp _ (List.getElem_mem hi)
  rw [List.drop_eq_getElem_cons hi, ordF]
  generalize ls[i] = n at hr p1 p2
  obtain ⟨e1, e2, e3, e4, e5⟩ := Qmc ho p1
  have hg := gcd_ev out n
  have hd : n / Nat.gcd out n ≤ n := Nat.div_le_self _ _
  generalize hgg : Nat.gcd out n = gg at e1 e3 e4 hg hd
  generalize hq : n / gg = q at e1 e4 hd
  have hmq : M / q ≤ M := Nat.div_le_self _ _
  have hiff := gt_iff (M := M) e4 e1
  generalize hL : Nat.lcm out n = L at e1 e5 hiff
  have w1 := Aside0.mk (show wrap64 (Int.tdiv (n : Int) (gg : Int)) = (q : Int) by rw [tdivN, hq]; exact Qib (x := q) (by omega))
  have w2 := Aside0.mk (show wrap64 (Int.tdiv (M : Int) (q : Int)) = ((M / q : Nat) : Int) by rw [tdivN]; exact Qib (x := M / q) (by omega))
  refine Ev.step (fun _ => Qcg.l0.eq_2 ..) (Qk (by rw [toI_len]; omega) (Qk (by omega) (Qk (by rw [toI_len]; omega) ?_)))
  rw [hr]
  refine Ev.bind hg (Qbh (by omega) ?_)
  rw [w1.out, w2.out]
  refine Qbh (by omega) (Qc6 (fun c => ?_) (fun c => ?_))
  ·
   rw [if_pos (hiff.mp c)]; exact Ev.now _
  ·
   have c2 : ¬ M < L := fun z => c (hiff.mpr z)
   have e6 := Aside0.mk (show wrap64 ((out : Int) * (q : Int)) = ((L : Nat) : Int) by
    rw [← Int.natCast_mul, e1]; exact Qib (x := L) (by omega))
   rw [if_neg c2, Qca (by omega), e6.out]
   exact Qj9 M hM ls hp hl d (i + 1) L (by omega) e5 (by omega)
theorem Qjq (M : Nat) (hM : M ≤ 1000000000000000) (hM2 : (1000000000000000 : Int) = (M : Int)) (ls : List Nat) (hp : ∀ n ∈ ls, 0 < n ∧ n ≤ 100000) (hl : ls.length ≤ 100000) : ∀ (d i out : Nat), i + d = ls.length → 0 < out → out ≤ M →
  Ev (fun k => Qbt.l0 k (out : Int) (toI ls) ((toI ls).length : Int) (i : Int)) ((((ordF M out (ls.drop i)).1 : Nat) : Int), (ordF M out (ls.drop i)).2)
 | 0, i, out, h, ho, hm => by
  refine Ev.step (fun _ => Qbt.l0.eq_2 ..) (Qbh (by rw [toI_len]; omega) ?_)
  rw [List.drop_of_length_le (by omega)]
  exact Ev.now _
 | d + 1, i, out, h, ho, hm => by
  have hi : i < ls.length := by omega
  have hr : rd (toI ls) (i : Int) = ((ls[i] : Nat) : Int) := by rw [Qeq]; simp [List.getD_eq_getElem?_getD, hi]
  obtain ⟨p1, p2⟩ := hp _ (List.getElem_mem hi)
  rw [List.drop_eq_getElem_cons hi, ordF]
  generalize ls[i] = n at hr p1 p2
  obtain ⟨e1, e2, e3, e4, e5⟩ := Qmc ho p1
  have hg := tgGcd_ev out n
  have hd : out / Nat.gcd out n ≤ out := Nat.div_le_self _ _
  generalize hgg : Nat.gcd out n = gg at e2 e3 hg hd
  generalize hq : out / gg = q at e2 hd
  have hmq : M / n ≤ M := Nat.div_le_self _ _
  have hiff := gt_iff (M := M) p1 e2
  generalize hL : Nat.lcm out n = L at e2 e5 hiff
  have w1 := Aside0.mk (show wrap64 (Int.tdiv (out : Int) (gg : Int)) = (q : Int) by rw [tdivN, hq]; exact Qib (x := q) (by omega))
  have w2 := Aside0.mk (show wrap64 ((1000000000000000 : Int) / (n : Int)) = ((M / n : Nat) : Int) by rw [hM2, ← Int.natCast_ediv]; exact Qib (x := M / n) (by omega))
  refine Ev.step (fun _ => Qbt.l0.eq_2 ..) (Qk (by rw [toI_len]; omega) (Qk (by omega) (Qk (by rw [toI_len]; omega) ?_)))
  rw [hr]
  refine Ev.bind hg (Qbh (by omega) (Qbh (by omega) ?_))
  rw [w1.out, w2.out]
  refine Qc6 (fun c => ?_) (fun c => ?_)
  ·
   rw [if_pos (hiff.mp c)]; exact Ev.now _
  ·
   have c2 : ¬ M < L := fun z => c (hiff.mpr z)
   have e6 := Aside0.mk (show wrap64 ((q : Int) * (n : Int)) = ((L : Nat) : Int) by
    rw [← Int.natCast_mul, e2]; exact Qib (x := L) (by omega))
   rw [if_neg c2]
   refine Ev.bind hg (Qbh (by omega) ?_)
   rw [Qca (by omega), w1.out, e6.out]
   exact Qjq M hM hM2 ls hp hl d (i + 1) L (by omega) e5 (by omega)
def bigM : Nat := 1000000000000000
theorem Ql2 : bigM ≤ 1000000000000000 := Nat.le_refl _
theorem Ql1 : (1000000000000000 : Int) = (bigM : Int) := rfl
theorem Qku : 1 ≤ bigM := by decide
theorem Qg6 (c : List (List Nat)) : lens c = toI (c.map List.length) := by
 unfold lens toI; rw [List.map_map]; rfl
theorem Qg7 {p : List Nat} (g : Good p) : ∀ n ∈ (orbs p).map List.length, 0 < n ∧ n ≤ 100000 := fun n hn => by
 obtain ⟨o, ho, rfl⟩ := List.mem_map.mp hn
 have := Qh7 g ho
 exact ⟨Qjy g ho, by omega⟩
theorem Qij (l : List Int) : ∃ r : Int × Bool, Ev (fun k => Qbt.f k l) r ∧ Ev (fun k => Qc1.f k l) r ∧ (∀ p, l = toI p → Good p → r = ((((ordF bigM 1 ((orbs p).map List.length)).1 : Nat) : Int), (ordF bigM 1 ((orbs p).map List.length)).2)) := by
 by_cases h : Qel l = true
 ·
  obtain ⟨p, rfl, g⟩ := Qee h
  have hl := Qeo g
  have h1 := Qj9 bigM Ql2 _ (Qg7 g) (by rw [List.length_map]; omega) _ 0 1 (Nat.zero_add _) (Nat.lt_succ_self 0) Qku
  have h2 := Qjq bigM Ql2 Ql1 _ (Qg7 g) (by rw [List.length_map]; omega) _ 0 1 (Nat.zero_add _) (Nat.lt_succ_self 0) Qku
  rw [List.drop_zero, ← Qg6] at h1 h2
  rw [← Ql1] at h1
  exact ⟨_, Ev.bind (Qdg _) (Qk h (Ev.bind (Qfn g) h2)), Ev.bind (Qdw _) (Qk h (Ev.bind (Qew g) (Ev.bind (Qfw g) (Ev.bind h1 (Ev.now _))))), fun p' e g' => by rw [Qj4 e]⟩
 ·
  exact ⟨(0, false), Ev.bind (Qdg _) (Qbh h (Ev.now _)), Ev.bind (Qdw _) (Qbh h (Ev.now _)), fun p e g' => absurd (by rw [e]; exact Qes g') h⟩
def fixF (k : Nat) : List Nat → Nat → Nat
 | [], acc => acc
 | n :: l, acc => if k % n = 0 then fixF k l (acc + n) else fixF k l acc
def sumN : List Nat → Nat
 | [] => 0
 | n :: l => n + sumN l
theorem Qin (k : Nat) (ls : List Nat) (hp : ∀ n ∈ ls, 0 < n ∧ n ≤ 100000) (hl : ls.length ≤ 100000) : ∀ (d i acc : Nat), i + d = ls.length → acc + sumN (ls.drop i) ≤ 1000000 →
  Ev (fun q => Qck.l0 q (k : Int) (acc : Int) (toI ls) ((toI ls).length : Int) (i : Int)) ((fixF k (ls.drop i) acc : Nat) : Int) ∧ Ev (fun q => Q6.l0 q (k : Int) (acc : Int) (toI ls) ((toI ls).length : Int) (i : Int)) (((fixF k (ls.drop i) acc : Nat) : Int), true)
 | 0, i, acc, h, hs => by
  rw [List.drop_of_length_le (by omega)]
  exact ⟨Ev.step (fun _ => Qck.l0.eq_2 ..) (Qbh (by rw [toI_len]; omega) (Ev.now _)), Ev.step (fun _ => Q6.l0.eq_2 ..) (Qbh (by rw [toI_len]; omega) (Ev.now _))⟩
 | d + 1, i, acc, h, hs => by
  have hi : i < ls.length := by omega
  have hr : rd (toI ls) (i : Int) = ((ls[i] : Nat) : Int) := by rw [Qeq]; simp [List.getD_eq_getElem?_getD, hi]
  obtain ⟨p1, p2⟩ := hp _ (List.getElem_mem hi)
  rw [List.drop_eq_getElem_cons hi, sumN] at hs
  rw [List.drop_eq_getElem_cons hi, fixF]
  generalize ls[i] = n at hr p1 p2 hs
  have w1 : wrap64 ((acc : Int) + (n : Int)) = ((acc + n : Nat) : Int) := by rw [Qdy (by omega) (by omega)]; omega
  have ih1 := Qin k ls hp hl d (i + 1) (acc + n) (by omega) (by omega)
  have ih2 := Qin k ls hp hl d (i + 1) acc (by omega) (by omega)
  have hiff : Int.tmod (k : Int) (n : Int) = 0 ↔ k % n = 0 := by rw [Qjs]; omega
  constructor
  ·
   refine Ev.step (fun _ => Qck.l0.eq_2 ..) (Qk (by rw [toI_len]; omega) (Qk (by omega) (Qk (by rw [toI_len]; omega) ?_)))
   rw [hr, w1, Qca (by omega)]
   refine Qbh (by omega) (Qc6 (fun c => ?_) (fun c => ?_))
   ·
    rw [if_pos (hiff.mp c)]; exact ih1.1
   ·
    rw [if_neg (fun z => c (hiff.mpr z))]; exact ih2.1
  ·
   refine Ev.step (fun _ => Q6.l0.eq_2 ..) (Qk (by rw [toI_len]; omega) (Qk (by omega) (Qk (by rw [toI_len]; omega) ?_)))
   rw [hr, w1, Qca (by omega)]
   refine Qbh (by omega) (Qc6 (fun c => ?_) (fun c => ?_))
   ·
    rw [if_pos (hiff.mp c)]; exact ih1.2
   ·
    rw [if_neg (fun z => c (hiff.mpr z))]; exact ih2.2
theorem Qln : ∀ c : List (List Nat), sumN (c.map List.length) = c.flatten.length
 | [] => rfl
 | o :: c => by rw [List.map_cons, sumN, List.flatten_cons, List.length_append, Qln c]
theorem Qiy {p : List Nat} (g : Good p) : sumN ((orbs p).map List.length) = (idls p).length := by rw [Qln, (Qhs g).length_eq]
theorem Qmb {f : Nat → Nat} {n x : Nat} (e : itr f n x = x) : ∀ q, itr f (n * q) x = x
 | 0 => rfl
 | q + 1 => by rw [Nat.mul_succ, Qfa, e, Qmb e q]
theorem Qmh {f : Nat → Nat} {n x : Nat} (h : perB f n x = true) (k : Nat) : itr f k x = x ↔ k % n = 0 := by
 obtain ⟨h1, h2, h3⟩ := Qlf.mp h
 have e : itr f k x = itr f (k % n) x := by
  have h4 : k = k % n + n * (k / n) := by have := Nat.div_add_mod k n; omega
  conv => lhs; rw [h4, Qfa, Qmb h2]
 rw [e]
 constructor
 ·
  intro h5
  apply Classical.byContradiction
  intro h6
  exact h3 (k % n) (by omega) (Nat.mod_lt _ h1) h5
 ·
  intro h5; rw [h5]; rfl
theorem Qhn {L : List Nat} {f : Nat → Nat} (hf : ∀ s ∈ L, f s ∈ L) (hinj : Inj L f) (k : Nat) : ∀ (c : List (List Nat)) (acc : Nat), (∀ o ∈ c, IsCyc L f o) → fixF k (c.map List.length) acc = acc + c.flatten.countP (fun s => itr f k s == s)
 | [], acc, _ => rfl
 | o :: c, acc, h => by
  have ho := h o List.mem_cons_self
  have hc : ∀ q ∈ c, IsCyc L f q := fun q hq => h q (List.mem_cons_of_mem _ hq)
  rw [List.map_cons, fixF, List.flatten_cons, List.countP_append]
  by_cases e : k % o.length = 0
  ·
   have : o.countP (fun s => itr f k s == s) = o.length := List.countP_eq_length.mpr fun y hy => beq_iff_eq.mpr ((Qmh (ho.per hf hinj hy) k).mpr e)
   rw [if_pos e, Qhn hf hinj k c _ hc, this]; omega
  ·
   have : o.countP (fun s => itr f k s == s) = 0 := List.countP_eq_zero.mpr fun y hy z => e ((Qmh (ho.per hf hinj hy) k).mp (beq_iff_eq.mp z))
   rw [if_neg e, Qhn hf hinj k c _ hc, this]; omega
theorem fix_orbs {p : List Nat} (g : Good p) (k : Nat) : fixF k ((orbs p).map List.length) 0 = (idls p).countP (fun s => itr (row p) k s == s) := by
 rw [Qhn (Qgz g) (Qg9 g) k _ 0 (Qg8 g), Nat.zero_add]
 exact (Qhs g).countP_eq _
theorem Qic (l : List Int) (k : Int) : ∃ r : Int × Bool, Ev (fun q => Q6.f q l k) r ∧ Ev (fun q => Qbq.f q l k) r ∧ (r.2 = true → ∃ (p : List Nat) (n : Nat), l = toI p ∧ Good p ∧ k = (n : Int) ∧ n ≤ 1000 ∧ r.1 = (((idls p).countP (fun s => itr (row p) n s == s) : Nat) : Int)) := by
 have no : ∀ l : List Int, Ev (fun q => Q6.j0 q k true l) (0, false) ∧ Ev (fun q => Qbq.j0 q k true l) (0, false) := fun l => ⟨Ev.step (fun _ => Q6.j0.eq_2 ..) (Qk rfl (Ev.now _)), Ev.step (fun _ => Qbq.j0.eq_2 ..) (Qk rfl (Ev.now _))⟩
 by_cases h : Qel l = true
 ·
  by_cases hk : inB k 0 1000 = true
  ·
   obtain ⟨p, rfl, g⟩ := Qee h
   have b := Qd8.mp hk
   obtain ⟨n, rfl⟩ : ∃ n : Nat, k = (n : Int) := ⟨k.toNat, by omega⟩
   have hl := Qeo g
   have gl := Qek g
   have hf := Qin n _ (Qg7 g) (by rw [List.length_map]; omega) _ 0 0 (Nat.zero_add _) (by rw [List.drop_zero, Qiy g]; omega)
   rw [List.drop_zero, ← Qg6] at hf
   refine ⟨(((fixF n ((orbs p).map List.length) 0 : Nat) : Int), true), Ev.bind (Qdg _) (Qk h (Qbk (Qgu _ _ _) ?_)), Ev.bind (Qdw _) (Qk h (Qbk (Qff _ _ _) ?_)), fun _ => ⟨p, n, rfl, g, rfl, by omega, by rw [← fix_orbs g n]⟩⟩
   ·
    rw [hk]
    exact Ev.step (fun _ => Q6.j0.eq_2 ..) (Qbh (by simp) (Ev.bind (Qfn g) hf.2))
   ·
    rw [hk]
    exact Ev.step (fun _ => Qbq.j0.eq_2 ..) (Qbh (by simp) (Ev.bind (Qew g) (Ev.bind (Qfw g) (Ev.bind hf.1 (Ev.now _)))))
  ·
   refine ⟨(0, false), Ev.bind (Qdg _) (Qk h (Qbk (Qgu _ _ _) ?_)), Ev.bind (Qdw _) (Qk h (Qbk (Qff _ _ _) ?_)), fun e => by cases e⟩
   ·
    rw [Bool.eq_false_iff.mpr hk]; exact (no l).1
   ·
    rw [Bool.eq_false_iff.mpr hk]; exact (no l).2
 ·
  exact ⟨(0, false), Ev.bind (Qdg _) (Qbh h (no l).1), Ev.bind (Qdw _) (Qbh h (no l).2), fun e => by cases e⟩
end Go.Proofs.YtkgngggppcmpfaaGreat.M
end
