/- Laws about the given program: the law FnOrbitsShareIdeals answers true for every input that its row lets in; no condition is added to the given statement. Contracts of the Go functions that it reaches, and the plain proof over lists. -/
import Derived.Test.YtkgngggppcmpfaaGreatWFnOrbitsShareIdeals0
import Derived.Test.YtkgngggppcmpfaaGreatKFnOrbitsShareIdeals0
import Derived.Test.YtkgngggppcmpfaaGreatKFnOrbitsShareIdeals1
import Derived.Test.YtkgngggppcmpfaaGreatKFnOrbitsShareIdeals2
import Derived.Test.YtkgngggppcmpfaaGreatKFnOrbitsShareIdeals3
import Derived.Test.YtkgngggppcmpfaaGreatKFnOrbitsShareIdeals4
import Derived.Test.YtkgngggppcmpfaaGreatKFnOrbitsShareIdeals5
import Derived.Test.YtkgngggppcmpfaaGreatKFnOrbitsShareIdeals6
import Derived.Test.YtkgngggppcmpfaaGreatKSF
import Derived.Test.YtkgngggppcmpfaaGreatKFnOrbitsShareIdeals8
import Derived.Test.YtkgngggppcmpfaaGreatKFnOrbitsShareIdeals9
section
namespace Go.Proofs.YtkgngggppcmpfaaGreat.M
open Go.RowKit Go.Proofs.YtkgngggppcmpfaaGreatW.PrintWords Go.Proofs.YtkgngggppcmpfaaGreatW.PrintLast Go.Proofs.YtkgngggppcmpfaaGreatW.PrintMore Go.Proofs.YtkgngggppcmpfaaGreat.L
set_option linter.unusedVariables false
theorem cyc_head {f : Nat → Nat} {x m : Nat} (h : 0 < m) : (cyc f x m).headD 0 = x := by
 obtain ⟨k, rfl⟩ : ∃ k, m = k + 1 := ⟨m - 1, by omega⟩
 unfold cyc
 rw [List.range_succ_eq_map]
 rfl
theorem Qg3 {L : List Nat} {f : Nat → Nat} (hf : ∀ s ∈ L, f s ∈ L) (hinj : Inj L f) {N : Nat} (hN : L.length < N) (hs : L.Pairwise (· < ·)) : ∀ (l met pre : List Nat), L = pre ++ l → (∀ z ∈ pre, z ∈ met) → Qe5 L f met → InL L met →
  (∀ o ∈ cycF f N l met, (∀ y ∈ o, o.headD 0 ≤ y) ∧ o.headD 0 ∈ l) ∧ (cycF f N l met).Pairwise (fun o q => o.headD 0 < q.headD 0)
 | [], met, pre, _, _, _, _ => ⟨fun o ho => (by cases ho), List.Pairwise.nil⟩
 | x :: l, met, pre, hL, hpre, hP, hI => by
  have hx : x ∈ L := by rw [hL]; simp
  have hL2 : L = (pre ++ [x]) ++ l := by rw [hL]; simp
  have hxl : ∀ y ∈ l, x < y := by
   rw [hL] at hs
   exact (List.pairwise_cons.mp (List.pairwise_append.mp hs).2.1).1
  rw [cycF]
  by_cases c : x ∈ met
  ·
   rw [if_pos c]
   obtain ⟨h1, h2⟩ := Qg3 hf hinj hN hs l met (pre ++ [x]) hL2 (fun z hz => by
    rcases List.mem_append.mp hz with h | h
    ·
     exact hpre z h
    ·
     rw [List.mem_singleton.mp h]; exact c) hP hI
   exact ⟨fun o ho => ⟨(h1 o ho).1, List.mem_cons_of_mem _ (h1 o ho).2⟩, h2⟩
  ·
   rw [if_neg c]
   obtain ⟨m, hm, em, eo, hI2⟩ := Qjk hf hinj hP hI hx c hN
   rw [eo]
   obtain ⟨h1, h2⟩ := Qg3 hf hinj hN hs l (met ++ cyc f x m) (pre ++ [x]) hL2 (fun z hz => by
    rcases List.mem_append.mp hz with h | h
    ·
     exact List.mem_append_left _ (hpre z h)
    ·
     rw [List.mem_singleton.mp h]; exact List.mem_append_right _ (Qfs.mpr ⟨0, hm, rfl⟩)) (Ql6 hf hinj hx hm em hP) hI2
   have hh : (cyc f x m).headD 0 = x := cyc_head hm
   refine ⟨fun o ho => ?_, List.pairwise_cons.mpr ⟨fun o ho => ?_, h2⟩⟩
   ·
    rcases List.mem_cons.mp ho with rfl | ho
    ·
     show (∀ y ∈ cyc f x m, (cyc f x m).headD 0 ≤ y) ∧ (cyc f x m).headD 0 ∈ x :: l
     rw [hh]
     refine ⟨fun y hy => ?_, List.mem_cons_self⟩
     have hyL : y ∈ L := hI2.2 y (List.mem_append_right _ hy)
     have hyn : y ∉ met := fun h => (List.nodup_append.mp hI2.1).2.2 y h y hy rfl
     rw [hL] at hyL
     rcases List.mem_append.mp hyL with h | h
     ·
      exact absurd (hpre y h) hyn
     ·
      rcases List.mem_cons.mp h with rfl | h
      ·
       exact Nat.le_refl _
      ·
       exact Nat.le_of_lt (hxl y h)
    ·
     exact ⟨(h1 o ho).1, List.mem_cons_of_mem _ (h1 o ho).2⟩
   ·
    show (cyc f x m).headD 0 < o.headD 0
    rw [hh]
    exact hxl _ (h1 o ho).2
theorem idls_up (p : List Nat) : (idls p).Pairwise (· < ·) := List.Pairwise.filter _ List.pairwise_lt_range
theorem Qjl {p : List Nat} (g : Good p) : (∀ o ∈ orbs p, ∀ y ∈ o, o.headD 0 ≤ y) ∧ (orbs p).Pairwise (fun o q => o.headD 0 < q.headD 0) := by
 obtain ⟨h1, h2⟩ := Qg3 (Qgz g) (Qg9 g) (Nat.lt_succ_self _) (idls_up p) (idls p) [] [] rfl (fun z hz => by cases hz) (Qhw _ _) (Qh5 _)
 exact ⟨fun o ho => (h1 o ho).1, h2⟩
theorem Qk3 {o : List Nat} (h : 0 < o.length) : o.headD 0 = o[0] := by
 cases o with
 | nil => exact absurd h (by simp)
 | cons x o => rfl
theorem Qmd (ls : List Nat) (hl : ls.length ≤ 100000) : ∀ (d i acc : Nat), i + d = ls.length → acc + sumN (ls.drop i) ≤ 1000000 → Ev (fun k => Qci.l0 k (acc : Int) (toI ls) ((toI ls).length : Int) (i : Int)) (((acc + sumN (ls.drop i) : Nat)) : Int)
 | 0, i, acc, h, hs => by
  rw [List.drop_of_length_le (by omega)]
  exact Ev.step (fun _ => Qci.l0.eq_2 ..) (Qbh (by rw [toI_len]; omega) (Ev.now _))
 | d + 1, i, acc, h, hs => by
  have hi : i < ls.length := by omega
  have hr : rd (toI ls) (i : Int) = ((ls[i] : Nat) : Int) := by rw [Qeq]; simp [List.getD_eq_getElem?_getD, hi]
  rw [List.drop_eq_getElem_cons hi, sumN] at hs ⊢
  generalize ls[i] = n at hr hs
  have w1 := Aside0.mk (show wrap64 ((acc : Int) + (n : Int)) = ((acc + n : Nat) : Int) by rw [Qdy (by omega) (by omega)]; omega)
  refine Ev.step (fun _ => Qci.l0.eq_2 ..) (Qk (by rw [toI_len]; omega) (Qk (by omega) (Qk (by rw [toI_len]; omega) ?_)))
  rw [hr, w1.out, Qca (by omega), ← Nat.add_assoc]
  exact Qmd ls hl d (i + 1) (acc + n) (by omega) (by omega)
theorem Qnb {p : List Nat} (g : Good p) : Ev (fun k => Qci.f k (lens (orbs p))) (((idls p).length : Nat) : Int) := by
 have hl := Qeo g
 have gl := Qek g
 have h := Qmd ((orbs p).map List.length) (by rw [List.length_map]; omega) _ 0 0 (Nat.zero_add _) (by rw [List.drop_zero, Qiy g]; omega)
 rw [List.drop_zero, Qiy g, Nat.zero_add, ← Qg6] at h
 exact h
theorem Qig {out : List Int} {n : Int} {i : Nat} (hi : i ≤ out.length) (hl : out.length ≤ 100000) {f : Nat → List Int → Option (List Int)} {r : List Int} (h : Ev (fun k => f k (Qf6 out n i)) r) :
  Ev (fun k => (some (([] : List Int) : List Int)).bind fun y575 => (if (i : Int) ≤ (out.length : Int) then ((some (out.take ((i : Int)).toNat : List Int)).bind fun y578 => (if y575.length + y578.length < 17592186044416 then ((some (y575 ++ y578 : List Int)).bind fun y582 => (if y582.length < 17592186044416 then ((some (y582 ++ [n] : List Int)).bind fun y585 => ((some (out.drop ((i : Int)).toNat : List Int)).bind fun y588 => (if y585.length + y588.length < 17592186044416 then f k (y585 ++ y588) else (none)))) else (none))) else (none))) else (none))) r := by
 have e1 : (out.take i).length = i := by rw [List.length_take]; omega
 have e2 : (out.drop i).length = out.length - i := List.length_drop
 refine Qbk rfl (Qk (by omega) (Qbk rfl (Qk ?_ (Qbk rfl (Qk ?_ (Qbk rfl (Qbk rfl (Qk ?_ ?_))))))))
 ·
  rw [Int.toNat_natCast, e1]; simp; omega
 ·
  rw [Int.toNat_natCast, List.nil_append, e1]; omega
 ·
  rw [Int.toNat_natCast, List.nil_append, List.length_append, e1, e2, List.length_singleton]; omega
 ·
  rw [Int.toNat_natCast, List.nil_append]; exact h
theorem Qjh (ls : List Int) (out : List Int) (n : Int) (q : Nat) (hl : out.length ≤ 100000) (hs : out.Pairwise (· ≤ ·)) (R : List Int → List Int → Prop)
  (c : ∀ o : List Int, o.Perm (n :: out) → o.Pairwise (· ≤ ·) → ∃ r, Ev (fun k => Q7.l0 k o ls (ls.length : Int) (wrap64 ((q : Int) + 1))) r ∧ R o r) : ∀ (d i : Nat), i + d = out.length → (∀ x ∈ out.take i, x ≤ n) →
  ∃ o r, o.Perm (n :: out) ∧ Ev (fun k => Q7.l1 k out n (i : Int) ls (ls.length : Int) (q : Int)) r ∧ R o r
 | 0, i, h, h1 => by
  obtain ⟨r, e, hR⟩ := c (Qf6 out n i) (Qe3 _ _ _) (Qfo hs h1 (fun x hx => by rw [List.drop_of_length_le (by omega)] at hx; cases hx))
  refine ⟨_, r, Qe3 _ _ _, Ev.step (fun _ => Q7.l1.eq_2 ..) (Qbh (by omega) (Qbk rfl (Qk (by omega) ?_))), hR⟩
  exact Qig (f := fun k o => Q7.l0 k o ls (ls.length : Int) (wrap64 ((q : Int) + 1))) (by omega) hl e
 | d + 1, i, h, h1 => by
  have hi : i < out.length := by omega
  by_cases cc : out[i] ≤ n
  ·
   obtain ⟨o, r, ho, e, hR⟩ := Qjh ls out n q hl hs R c d (i + 1) (by omega) (fun x hx => by
    rw [List.take_succ_eq_append_getElem hi] at hx
    rcases List.mem_append.mp hx with hx | hx
    ·
     exact h1 x hx
    ·
     rw [List.mem_singleton.mp hx]; exact cc)
   refine ⟨o, r, ho, Ev.step (fun _ => Q7.l1.eq_2 ..) (Qk (by omega) (Qk (by omega) ?_)), hR⟩
   rw [Qe4 hi, Qca (by omega)]
   exact Qk cc e
  ·
   obtain ⟨r, e, hR⟩ := c (Qf6 out n i) (Qe3 _ _ _) (Qfo hs h1 (fun x hx => by
    rw [List.drop_eq_getElem_cons hi] at hx
    rcases List.mem_cons.mp hx with hx | hx
    ·
     rw [hx]; omega
    ·
     have hd : (out.drop i).Pairwise (· ≤ ·) := hs.sublist (List.drop_sublist _ _)
     rw [List.drop_eq_getElem_cons hi] at hd
     have := (List.pairwise_cons.mp hd).1 x hx
     omega))
   refine ⟨_, r, Qe3 _ _ _, Ev.step (fun _ => Q7.l1.eq_2 ..) (Qk (by omega) (Qk (by omega) ?_)), hR⟩
   rw [Qe4 hi]
   exact Qbh cc (Qig (f := fun k o => Q7.l0 k o ls (ls.length : Int) (wrap64 ((q : Int) + 1))) (by omega) hl e)
theorem Qjg (ls : List Int) (hl : ls.length ≤ 2000) : ∀ (d q : Nat) (out : List Int), q + d = ls.length → out.length = q → out.Pairwise (· ≤ ·) →
  ∃ r, Ev (fun k => Q7.l0 k out ls (ls.length : Int) (q : Int)) r ∧ (r.Perm (out ++ ls.drop q) ∧ r.Pairwise (· ≤ ·))
 | 0, q, out, h, ho, hs => ⟨out, Ev.step (fun _ => Q7.l0.eq_2 ..) (Qbh (by omega) (Ev.now _)), by rw [List.drop_of_length_le (by omega), List.append_nil], hs⟩
 | d + 1, q, out, h, ho, hs => by
  have hq : q < ls.length := by omega
  obtain ⟨o, r, hp, e, h1, h2⟩ := Qjh ls out ls[q] q (by omega) hs (fun o r => r.Perm (o ++ ls.drop (q + 1)) ∧ r.Pairwise (· ≤ ·)) (fun o hp ho2 => by
   rw [Qca (by omega)]
   exact Qjg ls hl d (q + 1) o (by omega) (by rw [hp.length_eq, List.length_cons, ho]) ho2) out.length 0 (Nat.zero_add _) (fun x hx => by cases hx)
  refine ⟨r, Ev.step (fun _ => Q7.l0.eq_2 ..) (Qk (by omega) (Qk (by omega) (Qk (by omega) ?_))), ?_, h2⟩
  ·
   rw [Qe4 hq]; exact e
  ·
   rw [List.drop_eq_getElem_cons hq]
   exact h1.trans ((hp.append_right _).trans List.perm_middle.symm)
theorem Qmx (ls : List Int) (hl : ls.length ≤ 2000) : Ev (fun k => Q7.f k ls) (Qcz.sort ls) := by
 obtain ⟨r, e, h1, h2⟩ := Qjg ls hl ls.length 0 [] (Nat.zero_add _) rfl List.Pairwise.nil
 rw [List.drop_zero, List.nil_append] at h1
 rw [Qml h2 h1]
 exact e
theorem Qm2 {p : List Nat} (g : Good p) : Ev (fun k => Qb3.f k (toI p)) (Qcz.sort (lens (orbs p)), true) := by
 have hl := Qeo g
 exact Ev.bind (Qdw _) (Qk (Qes g) (Ev.bind (Qew g) (Ev.bind (Qfw g) (Qbk (Qki (by rw [Qfr]; omega)) (Ev.now _)))))
theorem Ql8 {p : List Nat} (g : Good p) : Ev (fun k => Qcy.f k (toI p)) (toI (idls p), true) := Ev.bind (Qdw _) (Qk (Qes g) (Ev.bind (Qf5 g) (Ev.now _)))
theorem cntO_val {p : List Nat} (g : Good p) : Ev (fun k => Qc3.f k (toI p)) (((idls p).length : Int), true) := by
 refine Ev.bind (Ql8 g) ?_
 dsimp only
 rw [toI_len]
 exact Ev.now _
def sizeB (s : Nat) : Bool := match Qez.f (s : Int), Qch.f 100 (s : Int), Qcc.f 100 (s : Int) with
 | some a, some b, some c => a == b && b == c
 | _, _, _ => false
theorem Qm1 : ((List.range 1024).all sizeB) = true := by decide +kernel
theorem size_at {s : Nat} (h : s < 1024) : ∃ v, Qez.f (s : Int) = some v ∧ Ev (fun k => Qch.f k (s : Int)) v ∧ Ev (fun k => Qcc.f k (s : Int)) v := by
 have h2 := List.all_eq_true.mp Qm1 s (List.mem_range.mpr h)
 unfold sizeB at h2
 split at h2
 ·
  rename_i a b c e1 e2 e3
  rw [Bool.and_eq_true, beq_iff_eq, beq_iff_eq] at h2
  obtain ⟨rfl, rfl⟩ := h2
  exact ⟨a, e1, Ev.of (Qch.mono _) e2, Ev.of (Qcc.mono _) e3⟩
 ·
  cases h2
theorem Qkr (l : List Int) (s : Int) : ∃ r : Int × Bool, Ev (fun k => Qdm.f k l s) r ∧ Ev (fun k => Qdl.f k l s) r ∧ (r.2 = true → Ev (fun k => Qcc.f k s) r.1) := by
 by_cases h : setB l s = true
 ·
  obtain ⟨p, x, rfl, rfl, g, hx⟩ := Qia h
  have gp := Qeu g
  have gl := g.le
  obtain ⟨v, e1, e2, e3⟩ := size_at (s := x) (by omega)
  refine ⟨(v, true), Ev.bind (Qdg _) (Qk (Qes g) (Qbk (Qe1 p _ gl) (Qk (Qd8.mpr (by omega)) (Ev.bind e2 (Ev.now _))))), Ev.bind (Qio _ _) (Qk h (Qbk e1 (Ev.now _))), fun _ => e3⟩
 ·
  refine ⟨(0, false), Ev.bind (Qdg _) (Qc6 (fun hg => ?_) (fun hg => Ev.now _)), Ev.bind (Qio _ _) (Qbh h (Ev.now _)), fun e => by cases e⟩
  obtain ⟨p, rfl, g⟩ := Qee hg
  have gl := g.le
  refine Qbk (Qe1 p _ gl) (Qbh (fun e => h ?_) (Ev.now _))
  unfold setB
  rw [hg, toI_len, e]; rfl
theorem Qkl (l : List Int) (s : Int) : ∃ r : List Int × Bool, r.1.length ≤ 100000 ∧ Ev (fun k => Qde.f k l s) r ∧ Ev (fun k => Qdc.f k l s) r := by
 by_cases h : idB l s = true
 ·
  obtain ⟨p, t, rfl, rfl, g, ht⟩ := idB_of h
  have hs := Qdb.mpr ht
  have gl := Qek g
  have gp := Qeu g
  obtain ⟨R, r1, r2, r3, r4⟩ := Qji g (Qhw (idls p) (row p)) (Qh5 (idls p)) hs (by simp)
  have hR : R.length ≤ (idls p).length := Qdz (M := idls p) (by simpa using r3.1) (fun x hx => r3.2 x (by simpa using hx))
  have hb : ∀ s ∈ idls p, s ≤ 1000000 := fun s hs => by have := (Qdb.mp hs).1; omega
  have hi : Ev (fun k => Qc4.f k (toI p) (t : Int)) (toI R) := by
   obtain ⟨K, hK⟩ := Qi6 (f := fun k (s : Nat) => Qbo.f k (toI p) (s : Int)) (r := fun s => ((row p s : Nat) : Int)) (idls p) (fun s hs => Qjp g (Qdb.mp hs).1)
   refine ⟨max K ((idls p).length + 1), fun k hk => ?_⟩
   have h2 := Qjb (m := fun x => Qbo.f k (toI p) x) (fun s hs => hK k (by omega) s hs) (Qgz g) (by omega) hb k (by omega) [t] [] [] (fun x hx => by rw [List.mem_singleton.mp hx]; exact hs) (Qh5 _) (by simp)
   have h3 : Qo.f k (fun x => Qbo.f k (toI p) x) [(t : Int)] = some [toI R] := by
    refine h2.trans ?_
    rw [cycF, if_neg (by simp), r1]; rfl
   show (Qo.f k (fun x => Qbo.f k (toI p) x) [(t : Int)]).bind _ = _
   rw [h3]; rfl
  refine ⟨(toI R, true), by rw [toI_len]; omega, Ev.bind (Qmn _ _) (Qk h (Ev.bind r2 (Ev.now _))), Ev.bind (Qg5 _ _) (Qk h (Ev.bind hi (Ev.now _)))⟩
 ·
  exact ⟨([], false), Nat.zero_le _, Ev.bind (Qmn _ _) (Qbh h (Ev.now _)), Ev.bind (Qg5 _ _) (Qbh h (Ev.now _))⟩
theorem Qkm {c : List Int} (h : Cu c 0 0) : ∃ R : List Int, R.length ≤ 21 ∧ Ev (fun k => Qco.f k c) R := by
 obtain ⟨R, t, s, hR, k1, e⟩ := Qgf (s := 0) (a := 7) (by omega) (by omega) h (by omega)
 exact ⟨R, hR, Ev.bind e (Ev.now _)⟩
theorem Qlr {c : List Int} (h : Cu c 0 0) : ∃ R : List Int, R.length ≤ 21 ∧ Ev (fun k => Qb8.f k c) R := by
 obtain ⟨R, t, s, hR, k1, e⟩ := Qgf (s := 0) (a := 7) (by omega) (by omega) h (by omega)
 exact ⟨R, hR, Ev.bind e (Ev.now _)⟩
theorem Qi5 {c : List Int} (h : Cu c 0 0) : ∃ (R : List Int) (v : Int), R.length ≤ 21 ∧ Ev (fun k => Qcl.f k c) (R, v) := by
 obtain ⟨R, t, s, hR, k1, e⟩ := Qgf (s := 0) (a := 7) (by omega) (by omega) h (by omega)
 obtain ⟨u, t2, s2, e2, hu, k2⟩ := Qik (s := s) [0, 1, 2, 3, 4, 5, 6, 12, 1000, 1001, (-1)] (by simp) k1 (by omega)
 exact ⟨R, u, hR, Ev.bind e (Qbk e2 (Ev.now _))⟩
theorem Qlq {c : List Int} (h : Cu c 0 0) : ∃ (R : List Int) (v : Int), R.length ≤ 21 ∧ Ev (fun k => Qcn.f k c) (R, v) := by
 obtain ⟨R, v, t, s, hR, k1, e⟩ := ideal_ok (s := 0) (a := 8) (by omega) (by omega) h (by omega)
 exact ⟨R, v, hR, Ev.bind e (Ev.now _)⟩
theorem Qlp {c : List Int} (h : Cu c 0 0) : ∃ (R : List Int) (v : Int), R.length ≤ 21 ∧ Ev (fun k => Qdj.f k c) (R, v) := by
 obtain ⟨R, t, s, hR, k1, e⟩ := Qgf (s := 0) (a := 10) (by omega) (by omega) h (by omega)
 obtain ⟨v, t2, s2, e2, k2⟩ := Qix (s := s) R k1 (by omega)
 by_cases hg : Qel R = true
 ·
  obtain ⟨p, rfl, g⟩ := Qee hg
  have gl := g.le
  by_cases hs : inB v 0 ((2 ^ p.length - 1 : Nat) : Int) = true
  ·
   obtain ⟨o, t3, s3, e3, k3⟩ := Qlb (s := s2) 2 k2 (by omega)
   have b := Qd8.mp hs
   obtain ⟨x, rfl⟩ : ∃ x : Nat, v = (x : Int) := ⟨v.toNat, by omega⟩
   have hx : x < 2 ^ p.length := by have := Nat.two_pow_pos p.length; omega
   cases o with
   | true => exact ⟨_, _, hR, Ev.bind e (Qbk e2 (Ev.bind (Qdg _) (Qk hg (Qbk (Qe1 p _ gl) (Qk hs (Qbk e3 (Qk rfl (Ev.bind (Qht g hx) (Ev.now _)))))))))⟩
   | false => exact ⟨_, _, hR, Ev.bind e (Qbk e2 (Ev.bind (Qdg _) (Qk hg (Qbk (Qe1 p _ gl) (Qk hs (Qbk e3 (Qbh (by simp) (Ev.now _))))))))⟩
  ·
   exact ⟨_, _, hR, Ev.bind e (Qbk e2 (Ev.bind (Qdg _) (Qk hg (Qbk (Qe1 p _ gl) (Qbh hs (Ev.now _))))))⟩
 ·
  exact ⟨_, _, hR, Ev.bind e (Qbk e2 (Ev.bind (Qdg _) (Qbh hg (Ev.now _))))⟩
theorem Qmt {c : List Int} (h : Cu c 0 0) : ∃ (R : List Int) (v : Int), R.length ≤ 21 ∧ Ev (fun k => Qcq.f k c) (R, v) := by
 obtain ⟨R, v, hR, e⟩ := Qlp h
 exact ⟨R, v, hR, Ev.bind e (Ev.now _)⟩
end Go.Proofs.YtkgngggppcmpfaaGreat.M
end
