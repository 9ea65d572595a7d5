/- Laws about the given program: the law FnRanksMakeRowmotion answers true for every input that its row lets in; no condition is added to the given statement. Contracts of the Go functions that it reaches, and the plain proof over lists. -/
import Derived.Test.YtkgngggppcmpfaaGreatWFnRanksMakeRowmotion0
import Derived.Test.YtkgngggppcmpfaaGreatKFnRanksMakeRowmotion0
import Derived.Test.YtkgngggppcmpfaaGreatKFnRanksMakeRowmotion1
import Derived.Test.YtkgngggppcmpfaaGreatKFnRanksMakeRowmotion2
import Derived.Test.YtkgngggppcmpfaaGreatKFnRanksMakeRowmotion3
import Derived.Test.YtkgngggppcmpfaaGreatKFnRanksMakeRowmotion4
import Derived.Test.YtkgngggppcmpfaaGreatKFnRanksMakeRowmotion5
import Derived.Test.YtkgngggppcmpfaaGreatKFnRanksMakeRowmotion6
import Derived.Test.YtkgngggppcmpfaaGreatKFnRanksMakeRowmotion7
import Derived.Test.YtkgngggppcmpfaaGreatKFnRanksMakeRowmotion8
import Derived.Test.YtkgngggppcmpfaaGreatKFnRanksMakeRowmotion9
section
namespace Go.Proofs.YtkgngggppcmpfaaGreat.M
open Go.RowKit Go.Proofs.YtkgngggppcmpfaaGreatW.PrintWords Go.Proofs.YtkgngggppcmpfaaGreatW.PrintLast Go.Proofs.YtkgngggppcmpfaaGreatW.PrintMore Go.Proofs.YtkgngggppcmpfaaGreat.L
set_option linter.unusedVariables false
theorem Qey : ∀ {l M : List Nat}, l.Nodup → (∀ x ∈ l, x ∈ M) → l.length ≤ M.length
 | [], M, _, _ => Nat.zero_le _
 | a :: l, M, hn, hs => by
  rw [List.nodup_cons] at hn
  have ha := hs a List.mem_cons_self
  have h1 := Qey (M := M.erase a) hn.2 (fun x hx => (List.mem_erase_of_ne (fun e => hn.1 (by rw [← e]; exact hx))).mpr (hs x (List.mem_cons_of_mem _ hx)))
  have h2 := List.length_erase_of_mem ha
  have h3 := List.length_pos_of_mem ha
  rw [List.length_cons]
  omega
def orbW (f : Nat → Nat) : Nat → List Nat → List Nat → Nat → List Nat × List Nat
 | 0, met, own, _ => (met, own)
 | k + 1, met, own, x => if x ∈ met then (met, own) else orbW f k (met ++ [x]) (own ++ [x]) (f x)
def cycF (f : Nat → Nat) (N : Nat) : List Nat → List Nat → List (List Nat)
 | [], _ => []
 | x :: l, met => if x ∈ met then cycF f N l met else (orbW f N met [] x).2 :: cycF f N l (orbW f N met [] x).1
def InL (L met : List Nat) : Prop := met.Nodup ∧ ∀ y ∈ met, y ∈ L
theorem InL.snoc {L met : List Nat} {x : Nat} (h : InL L met) (hx : x ∈ L) (hn : x ∉ met) : InL L (met ++ [x]) := by
 refine ⟨List.nodup_append.mpr ⟨h.1, by simp, ?_⟩, fun y hy => ?_⟩
 ·
  intro a ha b hb e
  rw [List.mem_singleton] at hb
  subst hb e
  exact hn ha
 ·
  rcases List.mem_append.mp hy with hy | hy
  ·
   exact h.2 y hy
  ·
   rw [List.mem_singleton] at hy; subst hy; exact hx
theorem Qmc {L : List Nat} {f : Nat → Nat} (hf : ∀ s ∈ L, f s ∈ L) : ∀ (k : Nat) (met own : List Nat) (x : Nat), InL L met → x ∈ L → InL L (orbW f k met own x).1
 | 0, met, own, x, h, hx => h
 | k + 1, met, own, x, h, hx => by
  unfold orbW
  split
  ·
   exact h
  ·
   rename_i hn
   exact Qmc hf k _ _ _ (h.snoc hx hn) (hf x hx)
theorem Qn7 {f : Nat → Nat} : ∀ (k : Nat) (met own : List Nat) (x : Nat), own.length ≤ (orbW f k met own x).2.length ∧ (orbW f k met own x).2.length ≤ own.length + k
 | 0, met, own, x => ⟨Nat.le_refl _, Nat.le_refl _⟩
 | k + 1, met, own, x => by
  unfold orbW
  split
  ·
   exact ⟨Nat.le_refl _, Nat.le_add_right _ _⟩
  ·
   have := Qn7 (f := f) k (met ++ [x]) (own ++ [x]) (f x)
   rw [List.length_append, List.length_singleton] at this
   omega
theorem Qgi {met : List Nat} {x : Nat} : ((toI met).contains (x : Int) = true) ↔ x ∈ met := by
 rw [List.contains_iff_mem]
 unfold toI
 rw [List.mem_map]
 constructor
 ·
  rintro ⟨y, hy, e⟩
  have : y = x := by omega
  subst this
  exact hy
 ·
  intro h; exact ⟨x, h, rfl⟩
theorem wf_nat {x : Nat} (h : x ≤ 1000000) : (Lit.int .i64 (x : Int)).wf = true := WalkArith.wf_i64 (by omega)
theorem Qo7 {L : List Nat} {f : Nat → Nat} {m : Int → Option Int} (hm : ∀ s ∈ L, m (s : Int) = some ((f s : Nat) : Int)) (hf : ∀ s ∈ L, f s ∈ L) (hL : L.length ≤ 10000) (hb : ∀ s ∈ L, s ≤ 1000000) : ∀ (k j : Nat) (met own : List Nat) (x : Nat), InL L met → x ∈ L → L.length < met.length + k → L.length < met.length + j → own.length ≤ met.length →
  Qw.own k m (toI met) (toI own) (x : Int) = some (toI (orbW f j met own x).1, toI (orbW f j met own x).2)
 | 0, j, met, own, x, h, hx, h1, h2, ho => absurd (Qey h.1 h.2) (by omega)
 | k + 1, 0, met, own, x, h, hx, h1, h2, ho => absurd (Qey h.1 h.2) (by omega)
 | k + 1, j + 1, met, own, x, h, hx, h1, h2, ho => by
  have hlen := Qey h.1 h.2
  rw [Qw.own, orbW, if_pos (wf_nat (hb x hx))]
  by_cases c : x ∈ met
  ·
   rw [if_pos c, if_pos (Qgi.mpr c)]
  ·
   rw [if_neg c, if_neg (fun e => c (Qgi.mp e)), if_pos (by rw [toI_len]; omega), if_pos (by rw [toI_len]; omega), hm x hx, Option.bind_some, ← Qhj, ← Qgh, ← Qgh]
   refine Qo7 hm hf hL hb k j _ _ _ (h.snoc hx c) (hf x hx) ?_ ?_ ?_ <;> simp only [List.length_append, List.length_singleton] <;> omega
theorem Qnw {L : List Nat} {f : Nat → Nat} {m : Int → Option Int} (hm : ∀ s ∈ L, m (s : Int) = some ((f s : Nat) : Int)) (hf : ∀ s ∈ L, f s ∈ L) (hL : L.length ≤ 10000) (hb : ∀ s ∈ L, s ≤ 1000000) (k : Nat) (hk : L.length < k) : ∀ (l met : List Nat) (out : List (List Int)), (∀ x ∈ l, x ∈ L) → InL L met → out.length + l.length ≤ 20000 →
  Qw.go k m (toI l) (toI met) out = some (out ++ (cycF f (L.length + 1) l met).map toI)
 | [], met, out, hl, h, ho => by
  show some out = _
  rw [cycF, List.map_nil, List.append_nil]
 | x :: l, met, out, hl, h, ho => by
  have hx := hl x List.mem_cons_self
  rw [List.length_cons] at ho
  show Qw.go k m ((x : Int) :: toI l) (toI met) out = _
  rw [Qw.go, cycF, if_pos (wf_nat (hb x hx))]
  by_cases c : x ∈ met
  ·
   rw [if_pos c, if_pos (Qgi.mpr c)]
   exact Qnw hm hf hL hb k hk l met out (fun y hy => hl y (List.mem_cons_of_mem _ hy)) h (by omega)
  ·
   rw [if_neg c, if_neg (fun e => c (Qgi.mp e)), show ([] : List Int) = toI [] from rfl, Qo7 hm hf hL hb k (L.length + 1) met [] x h hx (by omega) (by omega) (Nat.zero_le _), Option.bind_some]
   show (if out.length < 5864062014805 then _ else _) = _
   rw [if_pos (by omega), Qnw hm hf hL hb k hk l _ _ (fun y hy => hl y (List.mem_cons_of_mem _ hy)) (Qmc hf _ _ _ _ h hx) (by rw [List.length_append, List.length_singleton]; omega), List.append_assoc]
   rfl
theorem Qg7 {L : List Nat} {f : Nat → Nat} {M : Nat → Int → Option Int} (hM : ∀ s ∈ L, Ev (fun k => M k (s : Int)) ((f s : Nat) : Int)) (hf : ∀ s ∈ L, f s ∈ L) (hL : L.length ≤ 10000) (hb : ∀ s ∈ L, s ≤ 1000000) :
  Ev (fun k => Qw.f k (fun x => M k x) (toI L)) ((cycF f (L.length + 1) L []).map toI) := by
 obtain ⟨K, hK⟩ := Qnn (f := fun k (s : Nat) => M k (s : Int)) (r := fun s => ((f s : Nat) : Int)) L hM
 refine ⟨max K (L.length + 1), fun k hk => ?_⟩
 have := Qnw (m := fun x => M k x) (fun s hs => hK k (by omega) s hs) hf hL hb k (by omega) L [] [] (fun x hx => hx) ⟨List.Pairwise.nil, fun y hy => absurd hy (by simp)⟩ (by simp; omega)
 rw [List.nil_append] at this
 exact this
theorem Qls (rows : List (List Int)) (hl : rows.length ≤ 100000) : ∀ (d i : Nat) (acc : List Int), i + d = rows.length → acc.length = i →
  Ev (fun k => Qbr.l0 k acc rows (rows.length : Int) (i : Int)) (acc ++ (rows.drop i).map (fun r => (r.length : Int)))
 | 0, i, acc, h, ha => by
  refine Ev.step (fun _ => Qbr.l0.eq_2 ..) (Qbh (by omega) ?_)
  rw [List.drop_of_length_le (by omega), List.map_nil, List.append_nil]
  exact Ev.now _
 | d + 1, i, acc, h, ha => by
  have hi : i < rows.length := by omega
  refine Ev.step (fun _ => Qbr.l0.eq_2 ..) (Qh (by omega) (Qh (by omega) (Qh (by omega) (Qh (by omega) ?_))))
  have e : Qbq rows (i : Int) = rows[i] := by unfold Qbq; simp [List.getD_eq_getElem?_getD, hi]
  rw [e, List.drop_eq_getElem_cons hi, List.map_cons, Qb1 (by omega)]
  have := Qls rows hl d (i + 1) (acc ++ [(rows[i].length : Int)]) (by omega) (by rw [List.length_append, List.length_singleton]; omega)
  rw [List.append_assoc] at this
  exact this
theorem Qi1 (rows : List (List Int)) (hl : rows.length ≤ 100000) : Ev (fun k => Qbr.f k rows) (rows.map (fun r => (r.length : Int))) := by
 have := Qls rows hl rows.length 0 [] (by omega) rfl
 rw [List.drop_zero, List.nil_append] at this
 exact this
theorem Qhn {f : Nat → Nat} {N : Nat} : ∀ (l met : List Nat), (cycF f N l met).length ≤ l.length
 | [], met => Nat.le_refl _
 | x :: l, met => by
  unfold cycF
  split
  ·
   have := Qhn (f := f) (N := N) l met; rw [List.length_cons]; omega
  ·
   have := Qhn (f := f) (N := N) l (orbW f N met [] x).1; rw [List.length_cons, List.length_cons]; omega
def lens (c : List (List Nat)) : List Int := c.map fun o => (o.length : Int)
theorem Qk0 (c : List (List Nat)) : (c.map toI).map (fun r => (r.length : Int)) = lens c := by
 unfold lens
 rw [List.map_map]
 refine List.map_congr_left fun o _ => ?_
 show ((toI o).length : Int) = _
 rw [toI_len]
theorem Qjf : ∀ {l r : List Int}, l.Pairwise (· ≤ ·) → r.Pairwise (· ≤ ·) → l.Perm r → l = r
 | [], r, _, _, hp => hp.nil_eq
 | a :: l, [], _, _, hp => absurd hp.symm.nil_eq (by simp)
 | a :: l, b :: r, hl, hr, hp => by
  rw [List.pairwise_cons] at hl hr
  have h1 : a ∈ b :: r := hp.mem_iff.mp List.mem_cons_self
  have h2 : b ∈ a :: l := hp.mem_iff.mpr List.mem_cons_self
  have e : a = b := by
   rcases List.mem_cons.mp h1 with e | h1
   ·
    exact e
   ·
    rcases List.mem_cons.mp h2 with e | h2
    ·
     exact e.symm
    ·
     have := hl.1 b h2
     have := hr.1 a h1
     omega
  subst e
  rw [Qjf hl.2 hr.2 (List.Perm.cons_inv hp)]
theorem Qkt (l : List Int) : (Qc7.sort l).Pairwise (· ≤ ·) := by
 unfold Qc7.sort
 have h := List.pairwise_mergeSort (le := fun x y : Int => decide (x ≤ y)) (fun a b c h1 h2 => by rw [decide_eq_true_eq] at h1 h2 ⊢; omega) (fun a b => by rw [Bool.or_eq_true, decide_eq_true_eq, decide_eq_true_eq]; omega) l
 exact h.imp (fun h => by rwa [decide_eq_true_eq] at h)
theorem Qm5 (l : List Int) : (Qc7.sort l).Perm l := List.mergeSort_perm l _
theorem Qpd {l r : List Int} (hs : r.Pairwise (· ≤ ·)) (hp : r.Perm l) : Qc7.sort l = r := Qjf (Qkt l) hs ((Qm5 l).trans hp.symm)
theorem Qj2 {l : List Int} (h : l.length ≤ 100000) : Qc7.f l = some (Qc7.sort l) := if_pos (by omega)
def Qke (l : List Int) (n : Int) (i : Nat) : List Int := l.take i ++ [n] ++ l.drop i
theorem Qlv (l : List Int) (n : Int) (i : Nat) : (Qke l n i).Perm (n :: l) := by
 unfold Qke
 rw [List.append_assoc]
 refine List.perm_middle.trans ?_
 show (n :: (l.take i ++ l.drop i)).Perm _
 rw [List.take_append_drop]
theorem Qjy {l : List Int} {n : Int} {i : Nat} (hs : l.Pairwise (· ≤ ·)) (h1 : ∀ x ∈ l.take i, x ≤ n) (h2 : ∀ x ∈ l.drop i, n ≤ x) : (Qke l n i).Pairwise (· ≤ ·) := by
 have hs' := hs
 rw [← List.take_append_drop i l, List.pairwise_append] at hs'
 unfold Qke
 rw [List.append_assoc, List.pairwise_append]
 refine ⟨hs'.1, ?_, fun a ha b hb => ?_⟩
 ·
  exact List.pairwise_cons.mpr ⟨fun b hb => h2 b hb, hs'.2.1⟩
 ·
  rcases List.mem_cons.mp hb with e | hb
  ·
   rw [e]; exact h1 a ha
  ·
   exact hs'.2.2 a ha b hb
theorem Qoi (l : List Int) (n : Int) (hl : l.length ≤ 100000) (hs : l.Pairwise (· ≤ ·)) : ∀ (d i : Nat), i + d = l.length → (∀ x ∈ l.take i, x ≤ n) →
  ∃ r, Ev (fun k => Qcr.l0 k l n (i : Int)) r ∧ r.Perm (n :: l) ∧ r.Pairwise (· ≤ ·)
 | 0, i, h, h1 => by
  refine ⟨Qke l n i, ?_, Qlv l n i, Qjy hs h1 (fun x hx => by rw [List.drop_of_length_le (by omega)] at hx; cases hx)⟩
  refine Ev.step (fun _ => Qcr.l0.eq_2 ..) (Qbh (by omega) (Qh (by omega) (Qh (by omega) ?_)))
  rw [Int.toNat_natCast]
  refine Qbp (Qkz _ (by rw [List.length_take]; omega)) (Qh (by rw [List.length_take]; omega) (Qbp rfl (Qh ?_ (Ev.now _))))
  rw [List.length_append, List.length_take, List.length_drop, List.length_singleton]
  omega
 | d + 1, i, h, h1 => by
  have hi : i < l.length := by omega
  by_cases c : l[i] ≤ n
  ·
   obtain ⟨r, r1, r2⟩ := Qoi l n hl hs d (i + 1) (by omega) (fun x hx => by
    rw [List.take_succ_eq_append_getElem hi] at hx
    rcases List.mem_append.mp hx with hx | hx
    ·
     exact h1 x hx
    ·
     rw [List.mem_singleton] at hx; rw [hx]; exact c)
   refine ⟨r, ?_, r2⟩
   refine Ev.step (fun _ => Qcr.l0.eq_2 ..) (Qh (by omega) (Qh (by omega) ?_))
   rw [Qgj hi, Qb1 (by omega)]
   exact Qh c r1
  ·
   refine ⟨Qke l n i, ?_, Qlv l n i, Qjy hs h1 (fun x hx => ?_)⟩
   ·
    refine Ev.step (fun _ => Qcr.l0.eq_2 ..) (Qh (by omega) (Qh (by omega) ?_))
    rw [Qgj hi]
    refine Qbh c (Qh (by omega) ?_)
    rw [Int.toNat_natCast]
    refine Qbp (Qkz _ (by rw [List.length_take]; omega)) (Qh (by rw [List.length_take]; omega) (Qbp rfl (Qh ?_ (Ev.now _))))
    rw [List.length_append, List.length_take, List.length_drop, List.length_singleton]
    omega
   ·
    rw [List.drop_eq_getElem_cons hi] at hx
    have hd : (l.drop i).Pairwise (· ≤ ·) := hs.sublist (List.drop_sublist i l)
    rw [List.drop_eq_getElem_cons hi] at hd
    rcases List.mem_cons.mp hx with e | hx
    ·
     rw [e]; omega
    ·
     have := (List.pairwise_cons.mp hd).1 x hx
     omega
theorem rvPut_ev (l : List Int) (n : Int) (hl : l.length ≤ 100000) (hs : l.Pairwise (· ≤ ·)) : ∃ r, Ev (fun k => Qcr.f k l n) r ∧ r.Perm (n :: l) ∧ r.Pairwise (· ≤ ·) := Qoi l n hl hs l.length 0 (by omega) (fun x hx => by rw [List.take_zero] at hx; cases hx)
def gyrN (p : List Nat) (s : Nat) : Nat := (gyW (hgh p)).foldl (tgR p) s
def Seen (N : Nat) (seen : List Bool) (met : List Nat) : Prop := seen.length = N ∧ ∀ s, s < N → seen.getD s false = decide (s ∈ met)
theorem Seen.snoc {N : Nat} {seen : List Bool} {met : List Nat} (h : Seen N seen met) (x : Nat) (hx : x < N) : Seen N (seen.set x true) (met ++ [x]) := by
 refine ⟨by rw [List.length_set]; exact h.1, fun s hs => ?_⟩
 by_cases e : s = x
 ·
  subst e
  have : s < seen.length := by rw [h.1]; exact hs
  simp [List.getD_eq_getElem?_getD, this]
 ·
  have h2 := h.2 s hs
  rw [List.getD_eq_getElem?_getD] at h2 ⊢
  rw [List.getElem?_set_ne (fun e' => e e'.symm), h2]
  simp [e]
theorem Ql4 {p : List Nat} (g : Good p) (hr : Qdk p = true) (N : Nat) (hN : N = 2 ^ p.length) (ids : List Int) (q : Nat) (R : List Int × Bool) (out : List Int) : ∀ (k : Nat) (seen : List Bool) (met own : List Nat) (x : Nat), Seen N seen met → InL (idls p) met → x ∈ idls p → (idls p).length < met.length + k → own.length ≤ 3000 →
  (∀ seen', Seen N seen' (orbW (gyrN p) k met own x).1 → Ev (fun k' => if (((orbW (gyrN p) k met own x).2.length : Nat) : Int) > 0 then (Qcr.f k' out (((orbW (gyrN p) k met own x).2.length : Nat) : Int)).bind fun t => Qr.l0 k' seen' t ids (ids.length : Int) (wrap64 ((q : Int) + 1)) (toI p) else Qr.l0 k' seen' out ids (ids.length : Int) (wrap64 ((q : Int) + 1)) (toI p)) R) →
  own.length + k ≤ 3000 →
  Ev (fun k' => Qr.l1 k' seen out (x : Int) ((own.length : Nat) : Int) ids (ids.length : Int) (q : Int) (toI p)) R
 | 0, seen, met, own, x, hS, hI, hx, hk, ho, c, hk2 => absurd (Qey hI.1 hI.2) (by omega)
 | k + 1, seen, met, own, x, hS, hI, hx, hk, ho, c, hk2 => by
  have hid := Qdf.mp hx
  have hxN : x < N := by rw [hN]; exact hid.1
  refine Ev.step (fun _ => Qr.l1.eq_2 ..) (Qh (by omega) (Qh (by rw [hS.1]; omega) ?_))
  have e1 : rdOf false seen (x : Int) = decide (x ∈ met) := by unfold rdOf; rw [Int.toNat_natCast]; exact hS.2 x hxN
  rw [e1]
  by_cases cm : x ∈ met
  ·
   refine Qh (decide_eq_true cm) ?_
   rw [orbW, if_pos cm] at c
   exact c seen hS
  ·
   refine Qbh (by rw [decide_eq_true_eq]; exact cm) ?_
   rw [orbW, if_neg cm] at c
   have hg := Qig g hid false
   rw [if_neg (by simp), ← Qik g hr hid] at hg
   refine Ev.bind hg ?_
   rw [Int.toNat_natCast, Qb1 (by omega)]
   have e2 : own.length + 1 = (own ++ [x]).length := by rw [List.length_append, List.length_singleton]
   rw [e2]
   have hgi : gyrN p x ∈ idls p := by
    rw [Qdf]
    unfold gyrN
    rw [Qik g hr hid]
    exact Qf4 (Qf4 hid)
   exact Ql4 g hr N hN ids q R out k _ _ _ _ (hS.snoc x hxN) (hI.snoc hx cm) hgi (by rw [List.length_append, List.length_singleton]; omega) (by rw [List.length_append, List.length_singleton]; omega) c (by rw [List.length_append, List.length_singleton]; omega)
theorem Qja {p : List Nat} (g : Good p) (hr : Qdk p = true) (N : Nat) (hN : N = 2 ^ p.length) : ∀ (d q : Nat) (seen : List Bool) (met : List Nat) (out : List Int), q + d = (idls p).length → Seen N seen met → InL (idls p) met → out.Pairwise (· ≤ ·) → out.length ≤ q →
  ∃ r, Ev (fun k => Qr.l0 k seen out (toI (idls p)) ((toI (idls p)).length : Int) (q : Int) (toI p)) (r, true) ∧ r.Pairwise (· ≤ ·) ∧ r.Perm (out ++ lens (cycF (gyrN p) ((idls p).length + 1) ((idls p).drop q) met))
 | 0, q, seen, met, out, h, hS, hI, hs, ho => by
  refine ⟨out, Ev.step (fun _ => Qr.l0.eq_2 ..) (Qbh (by rw [toI_len]; omega) (Ev.now _)), hs, ?_⟩
  rw [List.drop_of_length_le (by omega), cycF]
  unfold lens
  rw [List.map_nil, List.append_nil]
 | d + 1, q, seen, met, out, h, hS, hI, hs, ho => by
  have hq : q < (idls p).length := by omega
  have gl := Qi0 g
  have hx := List.getElem_mem hq
  have hlen := Qey hI.1 hI.2
  have e0 : rd (toI (idls p)) (q : Int) = (((idls p)[q] : Nat) : Int) := by rw [Qem]; simp [List.getD_eq_getElem?_getD, hq]
  rw [List.drop_eq_getElem_cons hq, cycF]
  have hf : ∀ s ∈ idls p, gyrN p s ∈ idls p := fun s hs => by
   have hid := Qdf.mp hs
   rw [Qdf]
   unfold gyrN
   rw [Qik g hr hid]
   exact Qf4 (Qf4 hid)
  have start : ∀ R, (∀ seen', Seen N seen' (orbW (gyrN p) ((idls p).length + 1) met [] (idls p)[q]).1 → Ev (fun k' => if (((orbW (gyrN p) ((idls p).length + 1) met [] (idls p)[q]).2.length : Nat) : Int) > 0 then (Qcr.f k' out (((orbW (gyrN p) ((idls p).length + 1) met [] (idls p)[q]).2.length : Nat) : Int)).bind fun t => Qr.l0 k' seen' t (toI (idls p)) ((toI (idls p)).length : Int) (wrap64 ((q : Int) + 1)) (toI p) else Qr.l0 k' seen' out (toI (idls p)) ((toI (idls p)).length : Int) (wrap64 ((q : Int) + 1)) (toI p)) R) →
    Ev (fun k => Qr.l0 k seen out (toI (idls p)) ((toI (idls p)).length : Int) (q : Int) (toI p)) R := by
   intro R c
   refine Ev.step (fun _ => Qr.l0.eq_2 ..) (Qh (by rw [toI_len]; omega) (Qh (by omega) (Qh (by rw [toI_len]; omega) ?_)))
   rw [e0]
   exact Ql4 g hr N hN _ q R out ((idls p).length + 1) seen met [] _ hS hI hx (by omega) (Nat.zero_le _) c (by rw [List.length_nil]; omega)
  by_cases cm : (idls p)[q] ∈ met
  ·
   rw [if_pos cm]
   have e1 : orbW (gyrN p) ((idls p).length + 1) met [] (idls p)[q] = (met, []) := by rw [orbW, if_pos cm]
   have key : ∀ seen', Seen N seen' met → ∃ r, Ev (fun k => Qr.l0 k seen' out (toI (idls p)) ((toI (idls p)).length : Int) ((q + 1 : Nat) : Int) (toI p)) (r, true) ∧ r.Pairwise (· ≤ ·) ∧ r.Perm (out ++ lens (cycF (gyrN p) ((idls p).length + 1) ((idls p).drop (q + 1)) met)) := fun seen' hS' => Qja g hr N hN d (q + 1) seen' met out (by omega) hS' hI hs (by omega)
   obtain ⟨r, r1, r2, r3⟩ := key seen hS
   refine ⟨r, ?_, r2, r3⟩
   refine Ev.step (fun _ => Qr.l0.eq_2 ..) (Qh (by rw [toI_len]; omega) (Qh (by omega) (Qh (by rw [toI_len]; omega) ?_)))
   rw [e0]
   have hid := Qdf.mp hx
   have hxN : (idls p)[q] < N := by rw [hN]; exact hid.1
   refine Ev.step (fun _ => Qr.l1.eq_2 ..) (Qh (by omega) (Qh (by rw [hS.1]; omega) ?_))
   have e2 : rdOf false seen (((idls p)[q] : Nat) : Int) = decide ((idls p)[q] ∈ met) := by unfold rdOf; rw [Int.toNat_natCast]; exact hS.2 _ hxN
   rw [e2, Qb1 (by omega)]
   exact Qh (decide_eq_true cm) (Qbh (by omega) r1)
  ·
   rw [if_neg cm]
   obtain ⟨W, hW⟩ : ∃ W, W = orbW (gyrN p) ((idls p).length + 1) met [] (idls p)[q] := ⟨_, rfl⟩
   rw [← hW] at start ⊢
   have hpos : 1 ≤ W.2.length := by
    rw [hW, orbW, if_neg cm]
    have := (Qn7 (f := gyrN p) (idls p).length (met ++ [(idls p)[q]]) ([] ++ [(idls p)[q]]) (gyrN p (idls p)[q])).1
    simpa using this
   have hIW : InL (idls p) W.1 := by rw [hW]; exact Qmc hf _ _ _ _ hI hx
   obtain ⟨t, t1, t2, t3⟩ := rvPut_ev out ((W.2.length : Nat) : Int) (by omega) hs
   have htl : t.length = out.length + 1 := by rw [t2.length_eq, List.length_cons]
   have any : ∀ seen' seen'', Seen N seen' W.1 → Seen N seen'' W.1 → seen' = seen'' := fun s1 s2 h1 h2 => by
    refine List.ext_getElem (by rw [h1.1, h2.1]) fun i i1 i2 => ?_
    have a := h1.2 i (by rw [← h1.1]; exact i1)
    have b := h2.2 i (by rw [← h1.1]; exact i1)
    rw [List.getD_eq_getElem?_getD, List.getElem?_eq_getElem i1] at a
    rw [List.getD_eq_getElem?_getD, List.getElem?_eq_getElem i2] at b
    exact a.trans b.symm
   obtain ⟨S, hSS⟩ : ∃ S, Seen N S W.1 := ⟨(List.range N).map fun s => decide (s ∈ W.1), by rw [List.length_map, List.length_range], fun s hs => by simp [List.getD_eq_getElem?_getD, hs]⟩
   obtain ⟨r, r1, r2, r3⟩ := Qja g hr N hN d (q + 1) S W.1 t (by omega) hSS hIW t3 (by omega)
   refine ⟨r, start _ (fun seen' hS' => ?_), r2, ?_⟩
   ·
    rw [any seen' S hS' hSS, Qb1 (by omega)]
    exact Qh (by omega) (Ev.bind t1 r1)
   ·
    refine r3.trans ?_
    show (t ++ lens _).Perm (out ++ (((W.2.length : Nat) : Int) :: lens _))
    refine (t2.append_right _).trans ?_
    exact List.perm_middle.symm
theorem Qgm (l : List Int) (hl : l.length ≤ 1048576) : ∃ r : List Int × Bool, r.1.length ≤ 100000 ∧ Ev (fun k => Qr.f k l) r ∧ Ev (fun k => Qcx.f k l) r := by
 by_cases h : rgB l = true
 ·
  obtain ⟨p, rfl, g, hr⟩ := Qj0 h
  have gh := Qe5 g
  have gl := Qi0 g
  have hv := Qhd (hgh p)
  have gle := g.le
  have gp := Qf8 g
  obtain ⟨r, r1, r2, r3⟩ := Qja g hr (2 ^ p.length) rfl (idls p).length 0 (List.replicate (2 ^ p.length) false) [] [] (by omega) ⟨by rw [List.length_replicate], fun s hs => by simp [List.getD_eq_getElem?_getD, hs]⟩ ⟨List.Pairwise.nil, fun y hy => absurd hy (by simp)⟩ List.Pairwise.nil (Nat.le_refl _)
  rw [List.drop_zero, List.nil_append] at r3
  have hcl := Qhn (f := gyrN p) (N := (idls p).length + 1) (idls p) []
  have hll : (lens (cycF (gyrN p) ((idls p).length + 1) (idls p) [])).length ≤ 1024 := by unfold lens; rw [List.length_map]; omega
  refine ⟨(r, true), ?_, ?_, ?_⟩
  ·
   show r.length ≤ _
   rw [r3.length_eq]; omega
  ·
   refine Ev.bind (Qgg _) (Qh h ?_)
   rw [toI_len, Qf3 (by omega), Int.toNat_natCast]
   exact Qh (Int.natCast_nonneg _) (Qh (Nat.le_trans gp (by decide)) (Ev.bind (Qos g) r1))
  ·
   have hM : ∀ s ∈ idls p, Ev (fun k => (fun k x => Qp.f k (toI p) x (toI (gyW (hgh p)))) k (s : Int)) ((gyrN p s : Nat) : Int) := fun s hs => Qe4 g _ Qg1 (by omega) (Qdf.mp hs).1
   have hf : ∀ s ∈ idls p, gyrN p s ∈ idls p := fun s hs => by
    have hid := Qdf.mp hs
    rw [Qdf]
    unfold gyrN
    rw [Qik g hr hid]
    exact Qf4 (Qf4 hid)
   have hb : ∀ s ∈ idls p, s ≤ 1000000 := fun s hs => by have := (Qdf.mp hs).1; omega
   have hcy := Qg7 (M := fun k x => Qp.f k (toI p) x (toI (gyW (hgh p)))) hM hf (by omega) hb
   have hle := Qi1 ((cycF (gyrN p) ((idls p).length + 1) (idls p) []).map toI) (by rw [List.length_map]; omega)
   rw [Qk0] at hle
   have hso := Qj2 (l := lens (cycF (gyrN p) ((idls p).length + 1) (idls p) [])) (by omega)
   rw [Qpd r2 r3] at hso
   exact Ev.bind (Qfi _) (Qh h (Ev.bind (Qkb g) (Ev.bind (Qg8 g) (Qh (by rw [toI_len]; omega) (Ev.bind hcy (Ev.bind hle (Qbp hso (Ev.now _))))))))
 ·
  exact ⟨([], false), by simp, Ev.bind (Qgg _) (Qbh h (Ev.now _)), Ev.bind (Qfi _) (Qbh h (Ev.now _))⟩
theorem tg_tg {p : List Nat} {s e : Nat} (hs : IsId p s) (he : e < p.length) : tg p (tg p s e) e = s := by
 have hlt : s ^^^ 2 ^ e < 2 ^ p.length := Nat.xor_lt_two_pow hs.1 (Nat.pow_lt_pow_right (by omega) he)
 have hx : s ^^^ 2 ^ e ^^^ 2 ^ e = s := by rw [Nat.xor_assoc, Nat.xor_self, Nat.xor_zero]
 by_cases c : Qel p (s ^^^ 2 ^ e) = true
 ·
  have e1 : tg p s e = s ^^^ 2 ^ e := by unfold tg; rw [if_pos c]
  rw [e1]
  unfold tg
  rw [hx, if_pos ((Qe7 hs.1).mpr hs)]
 ·
  have e1 : tg p s e = s := by unfold tg; rw [if_neg c]
  rw [e1, e1]
theorem Qkm {p : List Nat} : ∀ (w : List Nat) (s : Nat), IsId p s → (∀ e ∈ w, e < p.length) → IsId p (w.foldl (tg p) s)
 | [], s, h, _ => h
 | e :: w, s, h, hw => by
  rw [List.foldl_cons]
  exact Qkm w _ (Qgy h (hw e List.mem_cons_self)) fun x hx => hw x (List.mem_cons_of_mem _ hx)
theorem Qg5 {p : List Nat} : ∀ (w : List Nat) (s : Nat), IsId p s → (∀ e ∈ w, e < p.length) → w.foldl (tg p) (w.reverse.foldl (tg p) s) = s
 | [], s, h, _ => rfl
 | e :: w, s, h, hw => by
  have hw' : ∀ x ∈ w, x < p.length := fun x hx => hw x (List.mem_cons_of_mem _ hx)
  rw [List.reverse_cons, List.foldl_append, List.foldl_cons]
  show w.foldl (tg p) (tg p (tg p (w.reverse.foldl (tg p) s) e) e) = s
  rw [tg_tg (Qkm _ s h fun x hx => hw' x (List.mem_reverse.mp hx)) (hw e List.mem_cons_self)]
  exact Qg5 w s h hw'
theorem row_inj {p : List Nat} (g : Good p) {s t : Nat} (hs : IsId p s) (ht : IsId p t) (e : row p s = row p t) : s = t := by
 have hr : ∀ x ∈ List.range p.length, x < p.length := fun x hx => List.mem_range.mp hx
 rw [← Qnp g hs, ← Qnp g ht] at e
 rw [← Qg5 (List.range p.length) s hs hr, ← Qg5 (List.range p.length) t ht hr, e]
def Qj8 (L : List Nat) (f : Nat → Nat) (met : List Nat) : Prop := ∀ z ∈ L, f z ∈ met → z ∈ met
end Go.Proofs.YtkgngggppcmpfaaGreat.M
end
section
namespace Go.Proofs.YtkgngggppcmpfaaGreat.M
set_option linter.unusedVariables false
def itr (f : Nat → Nat) : Nat → Nat → Nat
 | 0, x => x
 | n + 1, x => f (itr f n x)
theorem Qhe (f : Nat → Nat) (m : Nat) (x : Nat) : ∀ n, itr f (n + m) x = itr f n (itr f m x)
 | 0 => by rw [Nat.zero_add]; rfl
 | n + 1 => by rw [Nat.add_right_comm]; show f _ = f _; rw [Qhe f m x n]
theorem Qfw {L : List Nat} {f : Nat → Nat} (hf : ∀ s ∈ L, f s ∈ L) {x : Nat} (hx : x ∈ L) : ∀ n, itr f n x ∈ L
 | 0 => hx
 | n + 1 => hf _ (Qfw hf hx n)
def Inj (L : List Nat) (f : Nat → Nat) : Prop := ∀ s ∈ L, ∀ t ∈ L, f s = f t → s = t
theorem Qo8 {L : List Nat} {f : Nat → Nat} (hf : ∀ s ∈ L, f s ∈ L) (hi : Inj L f) {x y : Nat} (hx : x ∈ L) (hy : y ∈ L) : ∀ n, itr f n x = itr f n y → x = y
 | 0, h => h
 | n + 1, h => Qo8 hf hi hx hy n (hi _ (Qfw hf hx n) _ (Qfw hf hy n) h)
def cyc (f : Nat → Nat) (x n : Nat) : List Nat := (List.range n).map fun i => itr f i x
theorem Qka (f : Nat → Nat) (x n : Nat) : (cyc f x n).length = n := by simp [cyc]
theorem Qnm (f : Nat → Nat) (x n : Nat) : cyc f x (n + 1) = cyc f x n ++ [itr f n x] := by simp [cyc, List.range_succ]
theorem Qhg {f : Nat → Nat} {x n y : Nat} : y ∈ cyc f x n ↔ ∃ i, i < n ∧ itr f i x = y := by simp [cyc]
theorem Qo0 {f : Nat → Nat} {x n i : Nat} (h : i < (cyc f x n).length) : (cyc f x n)[i] = itr f i x := by simp [cyc]
structure IsCyc (L : List Nat) (f : Nat → Nat) (o : List Nat) : Prop where
 ex : ∃ x n, x ∈ L ∧ 0 < n ∧ itr f n x = x ∧ o = cyc f x n
 nd : o.Nodup
theorem Qo1 {f : Nat → Nat} {x n i j : Nat} (h : (cyc f x n).Nodup) (hij : i < j) (hj : j < n) (e : itr f i x = itr f j x) : False := by
 have h1 := List.pairwise_iff_getElem.mp h i j (by rw [Qka]; omega) (by rw [Qka]; omega) hij
 rw [Qo0, Qo0] at h1
 exact h1 e
theorem Qn6 {L : List Nat} {f : Nat → Nat} (hf : ∀ s ∈ L, f s ∈ L) (hinj : Inj L f) {met : List Nat} (hP : Qj8 L f met) {x : Nat} (hx : x ∈ L) : ∀ (k n : Nat), 0 < n → InL L (met ++ cyc f x n) → L.length < (met ++ cyc f x n).length + k →
  ∃ m, 0 < m ∧ itr f m x = x ∧ orbW f k (met ++ cyc f x n) (cyc f x n) (itr f n x) = (met ++ cyc f x m, cyc f x m) ∧ InL L (met ++ cyc f x m)
 | 0, n, hn, hI, hk => absurd (Qey hI.1 hI.2) (by omega)
 | k + 1, n, hn, hI, hk => by
  unfold orbW
  obtain ⟨n', rfl⟩ : ∃ n', n = n' + 1 := ⟨n - 1, by omega⟩
  have hnd := hI.1
  rw [List.nodup_append] at hnd
  have hlast : itr f n' x ∈ L := Qfw hf hx n'
  have hlm : itr f n' x ∉ met := fun h => hnd.2.2 _ h _ (Qhg.mpr ⟨n', by omega, rfl⟩) rfl
  by_cases c : itr f (n' + 1) x ∈ met ++ cyc f x (n' + 1)
  ·
   rw [if_pos c]
   refine ⟨n' + 1, hn, ?_, rfl, hI⟩
   rw [List.mem_append] at c
   rcases c with c | c
   ·
    exact absurd (hP _ hlast c) hlm
   ·
    obtain ⟨i, hi, e⟩ := Qhg.mp c
    cases i with
    | zero => exact e.symm
    | succ i =>
     exfalso
     exact Qo1 hnd.2.1 (by omega : i < n') (by omega) (hinj _ (Qfw hf hx i) _ hlast e)
  ·
   rw [if_neg c]
   have e1 : met ++ cyc f x (n' + 1) ++ [itr f (n' + 1) x] = met ++ cyc f x (n' + 1 + 1) := by rw [Qnm f x (n' + 1), List.append_assoc]
   have hI' := hI.snoc (Qfw hf hx (n' + 1)) c
   rw [e1] at hI'
   rw [e1, ← Qnm]
   refine Qn6 hf hinj hP hx k (n' + 1 + 1) (by omega) hI' ?_
   rw [← e1]
   simp only [List.length_append, List.length_singleton] at hk ⊢
   omega
theorem cyc_pre {L : List Nat} {f : Nat → Nat} (hf : ∀ s ∈ L, f s ∈ L) (hinj : Inj L f) {x m : Nat} (hx : x ∈ L) (hm : 0 < m) (e : itr f m x = x) {met : List Nat} (hP : Qj8 L f met) : Qj8 L f (met ++ cyc f x m) := by
 intro z hz h
 rw [List.mem_append] at h ⊢
 rcases h with h | h
 ·
  exact .inl (hP z hz h)
 ·
  obtain ⟨i, hi, ei⟩ := Qhg.mp h
  refine .inr (Qhg.mpr ?_)
  cases i with
  | zero =>
   obtain ⟨m', rfl⟩ : ∃ m', m = m' + 1 := ⟨m - 1, by omega⟩
   exact ⟨m', by omega, hinj _ (Qfw hf hx m') _ hz (e.trans ei)⟩
  | succ i => exact ⟨i, by omega, hinj _ (Qfw hf hx i) _ hz ei⟩
theorem Qpt {L : List Nat} {f : Nat → Nat} (hf : ∀ s ∈ L, f s ∈ L) (hinj : Inj L f) {met : List Nat} (hP : Qj8 L f met) (hI : InL L met) {x : Nat} (hx : x ∈ L) (hn : x ∉ met) {N : Nat} (hN : L.length < N) :
  ∃ m, 0 < m ∧ itr f m x = x ∧ orbW f N met [] x = (met ++ cyc f x m, cyc f x m) ∧ InL L (met ++ cyc f x m) := by
 obtain ⟨k, rfl⟩ : ∃ k, N = k + 1 := ⟨N - 1, by omega⟩
 have e : cyc f x 1 = [x] := rfl
 have h := Qn6 hf hinj hP hx k 1 (by omega) (by rw [e]; exact hI.snoc hx hn) (by rw [e, List.length_append, List.length_singleton]; omega)
 unfold orbW
 rw [if_neg hn]
 exact h
theorem Qjo {L : List Nat} {f : Nat → Nat} (hf : ∀ s ∈ L, f s ∈ L) (hinj : Inj L f) {N : Nat} (hN : L.length < N) : ∀ (l met : List Nat), (∀ x ∈ l, x ∈ L) → Qj8 L f met → InL L met →
  (∀ o ∈ cycF f N l met, IsCyc L f o) ∧ InL L (met ++ (cycF f N l met).flatten) ∧ (∀ x ∈ l, x ∈ met ++ (cycF f N l met).flatten)
 | [], met, _, _, hI => ⟨fun o ho => (by cases ho), by rw [cycF, List.flatten_nil, List.append_nil]; exact hI, fun x hx => (by cases hx)⟩
 | x :: l, met, hl, hP, hI => by
  have hx := hl x List.mem_cons_self
  have hl' : ∀ y ∈ l, y ∈ L := fun y hy => hl y (List.mem_cons_of_mem _ hy)
  rw [cycF]
  by_cases c : x ∈ met
  ·
   rw [if_pos c]
   obtain ⟨h1, h2, h3⟩ := Qjo hf hinj hN l met hl' hP hI
   refine ⟨h1, h2, fun y hy => ?_⟩
   rcases List.mem_cons.mp hy with rfl | hy
   ·
    exact List.mem_append_left _ c
   ·
    exact h3 y hy
  ·
   rw [if_neg c]
   obtain ⟨m, hm, em, eo, hI2⟩ := Qpt hf hinj hP hI hx c hN
   rw [eo]
   obtain ⟨h1, h2, h3⟩ := Qjo hf hinj hN l (met ++ cyc f x m) hl' (cyc_pre hf hinj hx hm em hP) hI2
   have e : met ++ (cyc f x m :: cycF f N l (met ++ cyc f x m)).flatten = met ++ cyc f x m ++ (cycF f N l (met ++ cyc f x m)).flatten := by rw [List.flatten_cons, List.append_assoc]
   show (∀ o ∈ cyc f x m :: cycF f N l (met ++ cyc f x m), IsCyc L f o) ∧ InL L (met ++ (cyc f x m :: cycF f N l (met ++ cyc f x m)).flatten) ∧ _
   refine ⟨fun o ho => ?_, by rw [e]; exact h2, fun y hy => ?_⟩
   ·
    rcases List.mem_cons.mp ho with rfl | ho
    ·
     exact ⟨⟨x, m, hx, hm, em, rfl⟩, (List.nodup_append.mp hI2.1).2.1⟩
    ·
     exact h1 o ho
   ·
    show y ∈ met ++ (cyc f x m :: cycF f N l (met ++ cyc f x m)).flatten
    rw [e]
    rcases List.mem_cons.mp hy with rfl | hy
    ·
     exact List.mem_append_left _ (List.mem_append_right _ (Qhg.mpr ⟨0, hm, rfl⟩))
    ·
     exact h3 y hy
theorem Qqf (L : List Nat) (f : Nat → Nat) : Qj8 L f [] := fun z _ h => (by cases h)
theorem inL_nil (L : List Nat) : InL L [] := ⟨List.Pairwise.nil, fun y hy => (by cases hy)⟩
theorem Qnl {L : List Nat} {f : Nat → Nat} (hL : L.Nodup) (hf : ∀ s ∈ L, f s ∈ L) (hinj : Inj L f) {N : Nat} (hN : L.length < N) :
  (∀ o ∈ cycF f N L [], IsCyc L f o) ∧ (cycF f N L []).flatten.Perm L := by
 obtain ⟨h1, h2, h3⟩ := Qjo hf hinj hN L [] (fun x hx => hx) (Qqf L f) (inL_nil L)
 rw [List.nil_append] at h2 h3
 exact ⟨h1, (List.perm_ext_iff_of_nodup h2.1 hL).mpr fun a => ⟨h2.2 a, h3 a⟩⟩
def perB (f : Nat → Nat) (n x : Nat) : Bool := decide (0 < n) && itr f n x == x && (List.range n).all fun m => m == 0 || itr f m x != x
theorem Qi6 {f : Nat → Nat} {n x : Nat} : perB f n x = true ↔ 0 < n ∧ itr f n x = x ∧ ∀ m, 0 < m → m < n → itr f m x ≠ x := by
 unfold perB
 simp only [Bool.and_eq_true, decide_eq_true_eq, beq_iff_eq, List.all_eq_true, List.mem_range, Bool.or_eq_true, bne_iff_ne, ne_eq, and_assoc]
 refine and_congr_right fun _ => and_congr_right fun _ => ⟨fun h m h0 hm => (h m hm).elim (fun e => absurd e (by omega)) id, fun h m hm => ?_⟩
 by_cases c : m = 0
 ·
  exact .inl c
 ·
  exact .inr (h m (by omega) hm)
theorem perB_two {f : Nat → Nat} {n m x : Nat} (h : perB f n x = true) (h' : perB f m x = true) : n = m := by
 rw [Qi6] at h h'
 rcases Nat.lt_trichotomy n m with c | c | c
 ·
  exact absurd h.2.1 (h'.2.2 n h.1 c)
 ·
  exact c
 ·
  exact absurd h'.2.1 (h.2.2 m h'.1 c)
theorem IsCyc.per {L : List Nat} {f : Nat → Nat} (hf : ∀ s ∈ L, f s ∈ L) (hinj : Inj L f) {o : List Nat} (h : IsCyc L f o) {y : Nat} (hy : y ∈ o) : perB f o.length y = true := by
 obtain ⟨x, n, hx, hn, e, rfl⟩ := h.ex
 obtain ⟨i, hi, rfl⟩ := Qhg.mp hy
 rw [Qka, Qi6]
 refine ⟨hn, ?_, fun m h0 hm e2 => ?_⟩
 ·
  rw [← Qhe, Nat.add_comm, Qhe, e]
 ·
  rw [← Qhe, Nat.add_comm, Qhe] at e2
  have e3 := Qo8 hf hinj (Qfw hf hx m) hx i e2
  exact Qo1 h.nd (i := 0) h0 hm e3.symm
theorem IsCyc.count {L : List Nat} {f : Nat → Nat} (hf : ∀ s ∈ L, f s ∈ L) (hinj : Inj L f) {o : List Nat} (h : IsCyc L f o) (n : Nat) : o.countP (perB f n) = if o.length = n then n else 0 := by
 by_cases c : o.length = n
 ·
  rw [if_pos c, ← c, List.countP_eq_length]
  intro y hy
  exact h.per hf hinj hy
 ·
  rw [if_neg c, List.countP_eq_zero]
  intro y hy e
  exact c (perB_two (h.per hf hinj hy) e)
theorem Qjb {L : List Nat} {f : Nat → Nat} (hf : ∀ s ∈ L, f s ∈ L) (hinj : Inj L f) (n : Nat) : ∀ (c : List (List Nat)), (∀ o ∈ c, IsCyc L f o) → c.flatten.countP (perB f n) = n * (lens c).count (n : Int)
 | [], _ => rfl
 | o :: c, h => by
  have ih := Qjb hf hinj n c fun o ho => h o (List.mem_cons_of_mem _ ho)
  rw [List.flatten_cons, List.countP_append, ih, (h o List.mem_cons_self).count hf hinj n]
  show _ = n * (List.count (n : Int) ((o.length : Int) :: lens c))
  rw [List.count_cons]
  by_cases e : o.length = n
  ·
   rw [if_pos e, if_pos (by rw [beq_iff_eq, e]), Nat.mul_add, Nat.mul_one]; omega
  ·
   rw [if_neg e, if_neg (by rw [beq_iff_eq]; omega), Nat.add_zero, Nat.zero_add]
theorem Qn1 {L : List Nat} {f : Nat → Nat} {c : List (List Nat)} (h : ∀ o ∈ c, IsCyc L f o) : ∀ x ∈ lens c, ∃ n : Nat, 0 < n ∧ x = (n : Int) := by
 intro x hx
 unfold lens at hx
 obtain ⟨o, ho, rfl⟩ := List.mem_map.mp hx
 obtain ⟨y, n, _, hn, _, rfl⟩ := (h o ho).ex
 exact ⟨n, hn, by rw [Qka]⟩
theorem Qqa {L : List Nat} {f g : Nat → Nat} {c d : List (List Nat)} (hf : ∀ s ∈ L, f s ∈ L) (hfi : Inj L f) (hg : ∀ s ∈ L, g s ∈ L) (hgi : Inj L g) (hc : ∀ o ∈ c, IsCyc L f o) (hd : ∀ o ∈ d, IsCyc L g o)
  (hn : ∀ n, 0 < n → c.flatten.countP (perB f n) = d.flatten.countP (perB g n)) : (lens c).Perm (lens d) := by
 rw [List.perm_iff_count]
 intro a
 by_cases ha : ∃ n : Nat, 0 < n ∧ a = (n : Int)
 ·
  obtain ⟨n, h0, rfl⟩ := ha
  have h := hn n h0
  rw [Qjb hf hfi n c hc, Qjb hg hgi n d hd] at h
  exact Nat.eq_of_mul_eq_mul_left h0 h
 ·
  rw [List.count_eq_zero.mpr fun h => ha (Qn1 hc a h), List.count_eq_zero.mpr fun h => ha (Qn1 hd a h)]
theorem Qny {L : List Nat} {f g φ : Nat → Nat} (hf : ∀ s ∈ L, f s ∈ L) (h : ∀ s ∈ L, φ (f s) = g (φ s)) {x : Nat} (hx : x ∈ L) : ∀ n, φ (itr f n x) = itr g n (φ x)
 | 0 => rfl
 | n + 1 => by show φ (f _) = g _; rw [h _ (Qfw hf hx n), Qny hf h hx n]
theorem Qp4 {L : List Nat} {f g φ : Nat → Nat} (hL : L.Nodup) (hf : ∀ s ∈ L, f s ∈ L) (hfi : Inj L f) (hg : ∀ s ∈ L, g s ∈ L) (hgi : Inj L g) (hp : ∀ s ∈ L, φ s ∈ L) (hpi : Inj L φ) (h : ∀ s ∈ L, φ (f s) = g (φ s)) {N M : Nat} (hN : L.length < N) (hM : L.length < M) :
  (lens (cycF f N L [])).Perm (lens (cycF g M L [])) := by
 obtain ⟨c1, c2⟩ := Qnl hL hf hfi hN
 obtain ⟨d1, d2⟩ := Qnl hL hg hgi hM
 refine Qqa hf hfi hg hgi c1 d1 fun n hn => ?_
 rw [c2.countP_eq, d2.countP_eq]
 have hm : (L.map φ).Perm L := by
  have nd : (L.map φ).Nodup := by
   refine List.pairwise_map.mpr ?_
   exact List.Pairwise.imp_of_mem (fun {a b} ha hb hab e => hab (hpi a ha b hb e)) hL
  refine (List.perm_ext_iff_of_nodup nd hL).mpr fun a => ⟨fun ha => ?_, fun ha => ?_⟩
  ·
   obtain ⟨b, hb, rfl⟩ := List.mem_map.mp ha; exact hp b hb
  ·
   refine Classical.byContradiction fun hn => ?_
   have hs : (L.map φ).length ≤ (L.erase a).length := Qey nd fun x hx => by
    obtain ⟨b, hb, rfl⟩ := List.mem_map.mp hx
    exact (List.mem_erase_of_ne (fun e => hn (by rw [← e]; exact hx))).mpr (hp b hb)
   have h1 := List.length_erase_of_mem ha
   have h2 := List.length_pos_of_mem ha
   rw [List.length_map] at hs
   omega
 rw [← hm.countP_eq (perB g n), List.countP_map]
 refine List.countP_congr fun x hx => ?_
 show perB f n x = true ↔ perB g n (φ x) = true
 rw [Qi6, Qi6]
 refine and_congr_right fun _ => ?_
 have key : ∀ m, itr f m x = x ↔ itr g m (φ x) = φ x := fun m => by
  rw [← Qny hf h hx m]
  exact ⟨fun e => by rw [e], fun e => hpi _ (Qfw hf hx m) _ hx e⟩
 exact and_congr (key n) ⟨fun h m h0 hm e => h m h0 hm ((key m).mpr e), fun h m h0 hm e => h m h0 hm ((key m).mp e)⟩
end Go.Proofs.YtkgngggppcmpfaaGreat.M
end
section
namespace Go.Proofs.YtkgngggppcmpfaaGreat.M
open Go.RowKit Go.Proofs.YtkgngggppcmpfaaGreatW.PrintWords Go.Proofs.YtkgngggppcmpfaaGreatW.PrintLast Go.Proofs.YtkgngggppcmpfaaGreatW.PrintMore Go.Proofs.YtkgngggppcmpfaaGreat.L
set_option linter.unusedVariables false
theorem Qjt {p : List Nat} (hr : Qdk p = true) {i j : Nat} (h : i = j ∨ i + 2 ≤ j ∨ j + 2 ≤ i) : Free p (mask p i p.length) (mask p j p.length) := by
 intro x y hx hy
 rw [Qev, Bool.and_eq_true, decide_eq_true_eq, decide_eq_true_eq] at hx hy
 refine ⟨Bool.eq_false_iff.mpr fun e => ?_, Bool.eq_false_iff.mpr fun e => ?_⟩
 ·
  have := Qhc hr hy.1 hx.1 e; omega
 ·
  have := Qhc hr hx.1 hy.1 e; omega
theorem Qmr {p : List Nat} (g : Good p) {a : Nat} (hf : Free p a a) : ∀ (n : Nat), n ≤ p.length → ∀ (s : Nat), IsId p s → Qco n a (tg p) (Qco n a (tg p) s) = s
 | 0, hn, s, hs => rfl
 | n + 1, hn, s, hs => by
  have hi : IsId p (Qco n a (tg p) s) := Qee _ _ _ _ (IsId p) hs (fun a e ha he _ => Qgy ha (by omega))
  have ih := Qmr g hf n (by omega) s hs
  rw [Qdu, Qdu]
  by_cases c : a.testBit n = true
  ·
   rw [if_pos c, if_pos c, ← Qjp g (by omega : n < p.length) n (by omega) _ hi (fun y _ hy => hf n y c hy), tg_tg (Qee _ _ _ _ (IsId p) hi (fun a e ha he _ => Qgy ha (by omega))) (by omega), ih]
  ·
   rw [if_neg c, if_neg c, ih]
theorem tgR_id {p : List Nat} {s r : Nat} (hs : IsId p s) : IsId p (tgR p s r) := Qf4 hs
theorem Qiv {p : List Nat} (g : Good p) (hr : Qdk p = true) : Sys (tgR p) (IsId p) (hgh p) where
 keep := fun s r hs _ => tgR_id hs
 inv := fun s r hs _ => Qmr g (Qjt hr (.inl rfl)) _ (Nat.le_refl _) s hs
 com := fun s i j hs _ _ h => by
  have hd : ∀ {i j : Nat}, i ≠ j → ∀ x, (mask p i p.length).testBit x = true → (mask p j p.length).testBit x = false := fun {i j} hij x hx => by
   rw [Qev, Bool.and_eq_true, decide_eq_true_eq, decide_eq_true_eq] at hx
   rw [Qev, decide_eq_false (fun e : hh p x = j => hij (hx.2.symm.trans e)), Bool.and_false]
  unfold tgR
  rw [← Qh8 g (hd (by omega)) (Qjt hr (.inr (.inl h))) hs, ← Qh8 g (hd (by omega)) (Qjt hr (.inr (.inr h))) hs, Nat.or_comm]
theorem Bk_row {p : List Nat} (g : Good p) {s : Nat} (hs : IsId p s) : (Bk 0 (hgh p)).foldl (tgR p) s = row p s := by
 rw [← Qm2 g hs, Bk, List.range_eq_range']
section
variable {p : List Nat} (g : Good p) (hr : Qdk p = true) {s : Nat} (hs : IsId p s)
include g hr hs
end
theorem Qn9 (b : Nat) : ∀ n, parW b n = parL b n
 | 0 => rfl
 | n + 1 => by rw [parW, parL, Qn9 b n]
theorem gyr_conj {p : List Nat} (g : Good p) (hr : Qdk p = true) : ∃ w : List Nat, In (hgh p) w ∧ ∀ s, IsId p s → w.foldl (tgR p) (row p s) = gyrN p (w.foldl (tgR p) s) := by
 have S := Qiv g hr
 obtain ⟨w, hw, h⟩ := S.conj (hgh p) (Nat.le_refl _)
 have hw' : In (hgh p) w := hw.mono (by omega)
 refine ⟨w, hw', fun s hs => ?_⟩
 have h1 := h s hs
 rw [Bk_row g hs, List.foldl_append, List.foldl_append] at h1
 have e : (parL 0 (hgh p) ++ parL 1 (hgh p)).foldl (tgR p) (w.foldl (tgR p) s) = gyrN p (w.foldl (tgR p) s) := by
  unfold gyrN gyW; rw [Qn9, Qn9]
 rw [e] at h1
 have hi : IsId p (gyrN p (w.foldl (tgR p) s)) := S.foldI _ _ (fun r hr => Qg1 r hr) (S.foldI w s hw' hs)
 rw [← h1, ← List.foldl_append]
 exact S.cancel' w hw' _ hi
end Go.Proofs.YtkgngggppcmpfaaGreat.M
end
section
namespace Go.Proofs.YtkgngggppcmpfaaGreat.M
open Go.RowKit Go.Proofs.YtkgngggppcmpfaaGreatW.PrintWords Go.Proofs.YtkgngggppcmpfaaGreatW.PrintLast Go.Proofs.YtkgngggppcmpfaaGreatW.PrintMore Go.Proofs.YtkgngggppcmpfaaGreat.L
set_option linter.unusedVariables false
theorem Qpi {x : List Int} {n : Nat} (h : x.all (inB · 0 ((n : Int) - 1)) = true) : x = toI (x.map Int.toNat) ∧ ∀ r ∈ x.map Int.toNat, r < n := by
 rw [List.all_eq_true] at h
 constructor
 ·
  unfold toI
  rw [List.map_map]
  exact (List.map_id x).symm.trans (List.map_congr_left fun a ha => by have := Qe3.mp (h a ha); simp; omega)
 ·
  intro r hr
  rw [List.mem_map] at hr
  obtain ⟨a, ha, rfl⟩ := hr
  have := Qe3.mp (h a ha); omega
theorem Qow (x : List Int) (rk : List Int) {n : Nat} (hn : wrap64 ((rk.length : Int) - 1) = (n : Int) - 1) : x.any (Qbz.p rk) = !(x.all (inB · 0 ((n : Int) - 1))) := by
 rw [Bool.eq_iff_iff, Bool.not_eq_true', List.any_eq_true, List.all_eq_false]
 refine exists_congr fun e => and_congr_right fun _ => ?_
 unfold Qbz.p
 rw [hn, Bool.not_eq_true', ← Bool.not_eq_true]
 rfl
theorem Qnd (l : List Int) (s : Int) (x : List Int) (hx : x.length ≤ 1048576) : ∃ r : Int × Bool, Ev (fun k => Qdq.f k l s x) r ∧ Ev (fun k => Qbz.f k l s x) r ∧
  (rvB l s = false → r = (0, false)) ∧ (∀ p t, l = toI p → s = ((t : Nat) : Int) → Good p → IsId p t → Qdk p = true → x.length ≤ 40 → (x.all (inB · 0 ((hgh p : Int) - 1)) = false → r = (0, false)) ∧ (x.all (inB · 0 ((hgh p : Int) - 1)) = true → r = ((((x.map Int.toNat).foldl (tgR p) t : Nat) : Int), true))) := by
 by_cases h : rvB l s = true
 ·
  obtain ⟨p, t, rfl, rfl, g, ht, hr⟩ := Qhr h
  have gh := Qe5 g
  by_cases hc : (x.length : Int) > 40
  ·
   exact ⟨(0, false), Ev.bind (Qfe _ _) (Qh h (Qh hc (Ev.now _))), Ev.bind (Qc5 _ _) (Qh h (Qh hc (Ev.now _))), fun _ => rfl, fun p' t' _ _ _ _ _ hl => by omega⟩
  ·
   have hn : wrap64 (((toI (Qff p)).length : Int) - 1) = ((hgh p : Nat) : Int) - 1 := by rw [toI_len, Qek, Qdt (by omega) (by omega)]
   by_cases ha : x.all (inB · 0 ((hgh p : Int) - 1)) = true
   ·
    obtain ⟨e, hw⟩ := Qpi ha
    have hwl : (x.map Int.toNat).length ≤ 100000 := by rw [List.length_map]; omega
    refine ⟨((((x.map Int.toNat).foldl (tgR p) t : Nat) : Int), true), ?_, ?_, fun h2 => (by rw [h] at h2; cases h2), fun p' t' e1 e2 _ _ _ _ => ?_⟩
    ·
     refine Ev.bind (Qfe _ _) (Qh h (Qbh hc (Ev.bind (Qfc g) ?_)))
     rw [hn]
     refine Ev.bind (Qnz x _ _ (by omega)) (Qh ha ?_)
     have := Qj1 g _ hw hwl ht.1
     rw [← e] at this
     exact Ev.bind this (Ev.now _)
    ·
     refine Ev.bind (Qc5 _ _) (Qh h (Qbh hc (Ev.bind (Qfk g) ?_)))
     rw [Qow x _ hn, ha]
     refine Qbh (by simp) ?_
     have := Qe4 g _ hw hwl ht.1
     rw [← e] at this
     exact Ev.bind this (Ev.now _)
    ·
     obtain rfl := Qmk e1
     obtain rfl : t = t' := by omega
     exact ⟨fun h2 => (by rw [ha] at h2; cases h2), fun _ => rfl⟩
   ·
    refine ⟨(0, false), ?_, ?_, fun _ => rfl, fun p' t' e1 e2 _ _ _ _ => ?_⟩
    ·
     refine Ev.bind (Qfe _ _) (Qh h (Qbh hc (Ev.bind (Qfc g) ?_)))
     rw [hn]
     exact Ev.bind (Qnz x _ _ (by omega)) (Qbh ha (Ev.now _))
    ·
     refine Ev.bind (Qc5 _ _) (Qh h (Qbh hc (Ev.bind (Qfk g) ?_)))
     rw [Qow x _ hn, Bool.eq_false_iff.mpr ha]
     exact Qh rfl (Ev.now _)
    ·
     obtain rfl := Qmk e1
     exact ⟨fun _ => rfl, fun h2 => absurd h2 ha⟩
 ·
  exact ⟨(0, false), Ev.bind (Qfe _ _) (Qbh h (Ev.now _)), Ev.bind (Qc5 _ _) (Qbh h (Ev.now _)), fun _ => rfl, fun p t e1 e2 g ht hr _ => absurd (by unfold rvB; rw [e1, e2, Qnv g ht, Qlz g hr]; rfl) h⟩
theorem Qhl (l : List Int) (s : Int) (x : List Int) (hl : l.length ≤ 1048576) (hx : x.length ≤ 1048576) : ∃ r : Int × Bool, Ev (fun k => Qdq.f k l s x) r ∧ Ev (fun k => Qbz.f k l s x) r := by
 obtain ⟨r, h1, h2, _⟩ := Qnd l s x hx
 exact ⟨r, h1, h2⟩
theorem Qhx (l : List Int) (s i : Int) (hl : l.length ≤ 1048576) : ∃ r : Int × Bool, Ev (fun k => Qd4.f k l s i) r ∧ Ev (fun k => Qc9.f k l s i) r := by
 obtain ⟨r, _, h2, h3, h4⟩ := Qnd l s [i] (by simp)
 refine ⟨r, ?_, Ev.bind h2 (Ev.now _)⟩
 by_cases h : rvB l s = true
 ·
  obtain ⟨p, t, rfl, rfl, g, ht, hr⟩ := Qhr h
  have gh := Qe5 g
  have h5 := h4 p t rfl rfl g ht hr (by simp)
  have hn : wrap64 (((toI (Qff p)).length : Int) - 1) = ((hgh p : Nat) : Int) - 1 := by rw [toI_len, Qek, Qdt (by omega) (by omega)]
  have ea : [i].all (inB · 0 ((hgh p : Int) - 1)) = inB i 0 ((hgh p : Int) - 1) := by simp
  refine Ev.bind (Qfe _ _) (Qh h (Ev.bind (Qfc g) ?_))
  rw [hn]
  refine Qbp (Qim _ _ _) (Qdb (fun e => ?_) (fun e => ?_))
  ·
   rw [h5.2 (ea.trans e)]
   obtain ⟨e2, hw⟩ := Qpi (ea.trans e)
   have := Qj1 g _ hw (by simp) ht.1
   rw [← e2] at this
   exact Ev.bind this (Ev.now _)
  ·
   rw [h5.1 (ea.trans (Bool.eq_false_iff.mpr e))]; exact Ev.now _
 ·
  rw [h3 (Bool.eq_false_iff.mpr h)]
  exact Ev.bind (Qfe _ _) (Qbh h (Ev.now _))
end Go.Proofs.YtkgngggppcmpfaaGreat.M
end
section
namespace Go.Proofs.YtkgngggppcmpfaaGreat.M
open Go.RowKit Go.Proofs.YtkgngggppcmpfaaGreatW.PrintWords Go.Proofs.YtkgngggppcmpfaaGreatW.PrintLast Go.Proofs.YtkgngggppcmpfaaGreatW.PrintMore Go.Proofs.YtkgngggppcmpfaaGreat.L
end Go.Proofs.YtkgngggppcmpfaaGreat.M
end
section
namespace Go.Proofs.YtkgngggppcmpfaaGreat.M
open Go.RowKit Go.Proofs.YtkgngggppcmpfaaGreatW.PrintWords Go.Proofs.YtkgngggppcmpfaaGreatW.PrintLast Go.Proofs.YtkgngggppcmpfaaGreatW.PrintMore Go.Proofs.YtkgngggppcmpfaaGreat.L
set_option linter.unusedVariables false
theorem Qp5 {x y : Int} {a b : List Int} (e : x = y) : decide (x :: a = y :: b) = decide (a = b) :=
 decide_eq_decide.mpr ⟨fun h => (List.cons.inj h).2, fun h => by rw [e, h]⟩
theorem Qn4 (a b : List Int) (hl : a.length ≤ 1000000) (hab : a.length = b.length) : ∀ (d i : Nat), i + d = a.length → Ev (fun k => Qcn.l0 k a b (a.length : Int) (i : Int)) (decide (a.drop i = b.drop i))
 | 0, i, h => by
  refine Ev.step (fun _ => Qcn.l0.eq_2 ..) (Qbh (by omega) ?_)
  rw [List.drop_of_length_le (by omega), List.drop_of_length_le (by omega)]
  exact Ev.now _
 | d + 1, i, h => by
  refine Ev.step (fun _ => Qcn.l0.eq_2 ..) (Qh (by omega) (Qh (by omega) (Qh (by omega) (Qh (by omega) ?_))))
  rw [Qb1 (by omega), Qgj (by omega : i < a.length), Qgj (by omega : i < b.length), List.drop_eq_getElem_cons (by omega : i < a.length), List.drop_eq_getElem_cons (by omega : i < b.length)]
  refine Qdb (fun e => ?_) (fun e => ?_)
  ·
   rw [Qp5 e]; exact Qn4 a b hl hab d (i + 1) (by omega)
  ·
   rw [decide_eq_false fun h => e (List.cons.inj h).1]; exact Ev.now false
theorem nSame_ev (a b : List Int) (hl : a.length ≤ 1000000) : Ev (fun k => Qcn.f k a b) (decide (a = b)) := by
 refine Qdb (fun e => ?_) (fun e => ?_)
 ·
  have := Qn4 a b hl (by omega) a.length 0 (by omega)
  rw [List.drop_zero, List.drop_zero] at this
  exact this
 ·
  rw [decide_eq_false fun h => e (by rw [h])]; exact Ev.now false
theorem Qi2 (a : List Int) (hl : a.length ≤ 1000000) : Ev (fun k => Qcn.f k a a) true := by simpa using nSame_ev a a hl
theorem big_eq (a b : List Int) : ∃ v, Qfx.f a b = some v ∧ (v = false → a.length ≤ 1048576 ∧ b.length ≤ 1048576) := by
 unfold Qfx.f
 by_cases h : (a.length : Int) > 1048576
 ·
  rw [if_pos h]; exact ⟨true, rfl, fun e => by cases e⟩
 ·
  rw [if_neg h]
  refine ⟨_, rfl, fun e => ?_⟩
  rw [decide_eq_false_iff_not, Qdt (by omega) (by omega)] at e
  omega
end Go.Proofs.YtkgngggppcmpfaaGreat.M
end
section
namespace Go.Proofs.YtkgngggppcmpfaaGreat.L
open Go.RowKit Go.Proofs.YtkgngggppcmpfaaGreatW.PrintWords Go.Proofs.YtkgngggppcmpfaaGreatW.PrintLast Go.Proofs.YtkgngggppcmpfaaGreatW.PrintMore Go.Proofs.YtkgngggppcmpfaaGreat.X
attribute [local go_sem] Q2 Q4 Qbb Qbc Qt Qu Q3 Q5
set_option linter.unusedVariables false
set_option linter.unusedSimpArgs false
end Go.Proofs.YtkgngggppcmpfaaGreat.L
end
section
namespace Go.Proofs.YtkgngggppcmpfaaGreat.M
open Go.RowKit Go.Proofs.YtkgngggppcmpfaaGreatW.PrintWords Go.Proofs.YtkgngggppcmpfaaGreatW.PrintLast Go.Proofs.YtkgngggppcmpfaaGreatW.PrintMore Go.Proofs.YtkgngggppcmpfaaGreat.L
set_option linter.unusedVariables false
structure Cu (c : List Int) (t : Int) (m : Nat) : Prop where
 len : c.length ≤ 1048576
 byt : ∀ x ∈ c, 0 ≤ x ∧ x ≤ 255
 lo : 0 ≤ t
 hi : t ≤ (m : Int)
theorem Cu.mono {c : List Int} {t : Int} {m n : Nat} (h : Cu c t m) (hm : m ≤ n) : Cu c t n := ⟨h.len, h.byt, h.lo, by have := h.hi; omega⟩
theorem Qnk {c : List Int} (hl : c.length ≤ 1048576) (hb : ∀ x ∈ c, (Lit.int .u8 x).wf = true) : Cu c 0 0 :=
 ⟨hl, fun x hx => by
  have h := hb x hx
  simp only [Lit.wf, Bool.and_eq_true, decide_eq_true_eq] at h
  have e0 : IntKind.u8.min = 0 := by decide
  have e1 : IntKind.u8.max = 255 := by decide
  omega, Int.le_refl _, Int.le_refl _⟩
theorem and255 (a : Int) : ∃ v : Nat, v ≤ 255 ∧ Go.bits .and .u64 a 255 = (v : Int) := by
 refine ⟨(BitVec.ofInt IntKind.u64.bits a).toNat &&& (BitVec.ofInt IntKind.u64.bits 255).toNat, ?_, ?_⟩
 ·
  exact Nat.le_trans Nat.and_le_right (by decide)
 ·
  simp only [Go.bits, BitVec.toNat_and]
  have h : (BitVec.ofInt IntKind.u64.bits a).toNat &&& (BitVec.ofInt IntKind.u64.bits 255).toNat ≤ 255 := Nat.le_trans Nat.and_le_right (by decide)
  rw [show ∀ n : Int, IntKind.u64.wrap n = n % 18446744073709551616 from fun n => by simp [IntKind.wrap, IntKind.bits, IntKind.signed]]
  omega
theorem Qo9 {c : List Int} {t s : Int} {m : Nat} (h : Cu c t m) (hm : m ≤ 1000000) : ∃ v t' s', Qd5.f c t s = some (v, t', s') ∧ 0 ≤ v ∧ v ≤ 255 ∧ Cu c t' (m + 1) := by
 have hl := h.len
 have h0 := h.lo
 have h1 := h.hi
 have hc : Cu c (wrap64 (t + 1)) (m + 1) := ⟨h.len, h.byt, by rw [Qdt (by omega) (by omega)]; omega, by rw [Qdt (by omega) (by omega)]; omega⟩
 have wb : ∀ a : Int, 0 ≤ wrap64 (Go.bits .and .u64 a 255) ∧ wrap64 (Go.bits .and .u64 a 255) ≤ 255 := fun a => by
  obtain ⟨v, hv, e⟩ := and255 a
  rw [e, Qdt (by omega) (by omega)]; omega
 unfold Qd5.f
 by_cases c1 : t < (c.length : Int)
 ·
  obtain ⟨i, rfl⟩ : ∃ i : Nat, t = (i : Int) := ⟨t.toNat, by omega⟩
  have hb := h.byt _ (List.getElem_mem (show i < c.length by omega))
  rw [if_pos c1, if_pos h0, Qgj (by omega)]
  by_cases c2 : wrap64 ((i : Int) + 1) ≤ (c.length : Int)
  ·
   rw [if_pos c2]
   exact ⟨_, _, _, rfl, by rw [Qdt (by omega) (by omega)]; omega, by rw [Qdt (by omega) (by omega)]; omega, hc⟩
  ·
   rw [if_neg c2]
   exact ⟨_, _, _, rfl, (wb _).1, (wb _).2, hc⟩
 ·
  rw [if_neg c1]
  by_cases c2 : wrap64 (t + 1) ≤ (c.length : Int)
  ·
   rw [if_pos c2]
   exact ⟨_, _, _, rfl, by omega, by omega, hc⟩
  ·
   rw [if_neg c2]
   exact ⟨_, _, _, rfl, (wb _).1, (wb _).2, hc⟩
theorem Qph {a n : Int} (ha : 0 ≤ a) (hn : 0 < n) : 0 ≤ Int.tmod a n ∧ Int.tmod a n < n := by
 rw [Int.tmod_eq_emod_of_nonneg ha]
 exact ⟨Int.emod_nonneg _ (by omega), Int.emod_lt_of_pos _ hn⟩
theorem Qej {c : List Int} {t s : Int} {m : Nat} (n : Int) (h : Cu c t m) (hm : m ≤ 900000) : ∃ v t' s', Qz.f c t s n = some (v, t', s') ∧ 0 ≤ v ∧ (v < n ∨ v = 0) ∧ Cu c t' (m + 2) := by
 unfold Qz.f
 by_cases c1 : n ≤ 1
 ·
  rw [if_pos c1]
  exact ⟨_, _, _, rfl, Int.le_refl _, .inr rfl, h.mono (by omega)⟩
 ·
  rw [if_neg c1]
  obtain ⟨v, t', s', e, v0, v1, h'⟩ := Qo9 (s := s) h (by omega)
  rw [e, Option.bind_some]
  by_cases c2 : n > 200
  ·
   obtain ⟨v2, t2, s2, e2, a0, a1, h2⟩ := Qo9 (s := s') h' (by omega)
   dsimp only
   rw [if_pos c2, e2, Option.bind_some, if_neg (by omega)]
   dsimp only
   have w : wrap64 (wrap64 (v * 256) + v2) = v * 256 + v2 := by rw [Qdt (x := v * 256) (by omega) (by omega), Qdt (by omega) (by omega)]
   have b := Qph (a := v * 256 + v2) (n := n) (by omega) (by omega)
   refine ⟨_, _, _, rfl, ?_, .inl ?_, h2⟩
   ·
    show 0 ≤ Int.tmod (wrap64 (wrap64 (v * 256) + v2)) n
    rw [w]; exact b.1
   ·
    show Int.tmod (wrap64 (wrap64 (v * 256) + v2)) n < n
    rw [w]; exact b.2
  ·
   dsimp only
   rw [if_neg c2, if_neg (by omega)]
   have b := Qph (a := v) (n := n) v0 (by omega)
   exact ⟨_, _, _, rfl, b.1, .inl b.2, h'.mono (by omega)⟩
theorem Qlt {c : List Int} {t s : Int} {m : Nat} (n : Int) (h : Cu c t m) (hm : m ≤ 900000) : ∃ v t' s', Qc6.f c t s n = some (v, t', s') ∧ Cu c t' (m + 2) := by
 obtain ⟨v, t', s', e, _, _, h'⟩ := Qej (s := s) n h hm
 unfold Qc6.f
 rw [e, Option.bind_some]
 exact ⟨_, _, _, rfl, h'⟩
theorem Qiy {c : List Int} {t s : Int} {m : Nat} (l : List Int) (hl : 0 < l.length) (h : Cu c t m) (hm : m ≤ 900000) : ∃ v t' s', Qce.f c t s l = some (v, t', s') ∧ v ∈ l ∧ Cu c t' (m + 2) := by
 obtain ⟨v, t', s', e, v0, v1, h'⟩ := Qej (s := s) (l.length : Int) h hm
 obtain ⟨i, rfl⟩ : ∃ i : Nat, v = (i : Int) := ⟨v.toNat, by omega⟩
 unfold Qce.f
 rw [e, Option.bind_some]
 have hi : i < l.length := by omega
 dsimp only
 rw [if_pos (by omega), if_pos (by omega), Qgj hi]
 exact ⟨_, _, _, rfl, List.getElem_mem hi, h'⟩
def Qj7 (n : Nat) (x : List (List Int)) : Prop := ∀ c ∈ x, ∃ i j : Int, c = [i, j] ∧ 0 ≤ i ∧ i < (n : Int)
theorem Qjx {n : Nat} (hn : n ≤ 1000) (x : List (List Int)) (hx : Qj7 n x) (hl : x.length ≤ 100000) (i : Nat) (hi : i < n) (c : ∀ F : List Int, F.length = n → ∃ R : List Int, R.length = n ∧ Ev (fun k => Qbg.l0 k (n : Int) x ((i + 1 : Nat) : Int) F) R) : ∀ (d q : Nat) (F : List Int), q + d = x.length → F.length = n →
  ∃ R : List Int, R.length = n ∧ Ev (fun k => Qbg.l1 k (n : Int) x (i : Int) x (x.length : Int) (q : Int) F) R
 | 0, q, F, h, hF => by
  obtain ⟨R, hR, e⟩ := c F hF
  refine ⟨R, hR, Ev.step (fun _ => Qbg.l1.eq_2 ..) (Qbh (by omega) ?_)⟩
  rw [Qb1 (by omega)]; exact e
 | d + 1, q, F, h, hF => by
  have hq : q < x.length := by omega
  obtain ⟨a, b, e, ha, hb⟩ := hx _ (List.getElem_mem hq)
  have er : Qbq x (q : Int) = [a, b] := by unfold Qbq; simp [List.getD_eq_getElem?_getD, hq, e]
  have e0 : rd [a, b] 0 = a := rfl
  have e1 : rd [a, b] 1 = b := rfl
  have el : (([a, b] : List Int).length : Int) = 2 := rfl
  by_cases cb : b = (i : Int)
  ·
   have ih := Qjx hn x hx hl i hi c d (q + 1)
   obtain ⟨R, hR, ev⟩ := ih (F.set i (Go.bits .or .i64 (rd F (i : Int)) (Go.bits .or .i64 (shl .i64 1 a) (rd F a)))) (by omega) (by rw [List.length_set]; exact hF)
   refine ⟨R, hR, Ev.step (fun _ => Qbg.l1.eq_2 ..) (Qh (by omega) (Qh (by omega) (Qh (by omega) ?_)))⟩
   rw [er, e0, e1, el]
   refine Qh (by omega) (Qh cb (Qh (by omega) (Qh (by omega) (Qh (by omega) (Qh ha (Qh (by omega) ?_))))))
   rw [Qb1 (by omega), Int.toNat_natCast]
   exact ev
  ·
   have ih := Qjx hn x hx hl i hi c d (q + 1)
   obtain ⟨R, hR, ev⟩ := ih F (by omega) hF
   refine ⟨R, hR, Ev.step (fun _ => Qbg.l1.eq_2 ..) (Qh (by omega) (Qh (by omega) (Qh (by omega) ?_)))⟩
   rw [er, e1, el]
   refine Qh (by omega) (Qbh cb ?_)
   rw [Qb1 (by omega)]
   exact ev
theorem Qmv {n : Nat} (hn : n ≤ 1000) (x : List (List Int)) (hx : Qj7 n x) (hl : x.length ≤ 100000) : ∀ (d i : Nat), i + d = n → ∀ F : List Int, F.length = n → ∃ R : List Int, R.length = n ∧ Ev (fun k => Qbg.l0 k (n : Int) x (i : Int) F) R
 | 0, i, h, F, hF => ⟨F, hF, Ev.step (fun _ => Qbg.l0.eq_2 ..) (Qbh (by omega) (Ev.now _))⟩
 | d + 1, i, h, F, hF => by
  obtain ⟨R, hR, e⟩ := Qjx hn x hx hl i (by omega) (Qmv hn x hx hl d (i + 1) (by omega)) x.length 0 F (by omega) hF
  exact ⟨R, hR, Ev.step (fun _ => Qbg.l0.eq_2 ..) (Qh (by omega) e)⟩
theorem Qmw {n : Nat} (hn : n ≤ 1000) (x : List (List Int)) (hx : Qj7 n x) (hl : x.length ≤ 100000) : ∃ R : List Int, R.length = n ∧ Ev (fun k => Qbg.f k (n : Int) x) R := by
 obtain ⟨R, hR, e⟩ := Qmv hn x hx hl n 0 (by omega) (List.replicate n 0) (by simp)
 refine ⟨R, hR, Qh (by omega) (Qh (by omega) ?_)⟩
 rw [Int.toNat_natCast]
 exact e
def rectB (a b : Nat) : Bool := match Qbd.f 400 (a : Int) (b : Int) with
 | some r => r.length == a * b
 | none => false
theorem rect_all : ((List.range' 1 2).all fun a => (List.range' 1 5).all fun b => rectB a b) = true := by decide +kernel
theorem rect_ok {a b : Nat} (h1 : 1 ≤ a) (h2 : a ≤ 2) (h3 : 1 ≤ b) (h4 : b ≤ 5) : ∃ R : List Int, R.length = a * b ∧ Ev (fun k => Qbd.f k (a : Int) (b : Int)) R := by
 have h := rect_all
 rw [List.all_eq_true] at h
 have h := h a (by rw [List.mem_range'_1]; omega)
 rw [List.all_eq_true] at h
 have h := h b (by rw [List.mem_range'_1]; omega)
 unfold rectB at h
 split at h
 ·
  rename_i r e
  exact ⟨r, beq_iff_eq.mp h, Ev.of (Qbd.mono _ _) e⟩
 ·
  cases h
def stairB (a : Nat) : Bool := match Qy.f 60 (a : Int) with
 | some r => decide (1 ≤ r.1.length) && decide (r.1.length ≤ 10) && r.2
 | none => false
theorem Qqh : ((List.range' 1 2).all stairB) = true := by decide +kernel
theorem stair_ok {a : Nat} (h1 : 1 ≤ a) (h2 : a ≤ 2) : ∃ R : List Int × Bool, 1 ≤ R.1.length ∧ R.1.length ≤ 10 ∧ Ev (fun k => Qy.f k (a : Int)) R := by
 have h := Qqh
 rw [List.all_eq_true] at h
 have h := h a (by rw [List.mem_range'_1]; omega)
 unfold stairB at h
 split at h
 ·
  rename_i r e
  rw [Bool.and_eq_true, Bool.and_eq_true, decide_eq_true_eq, decide_eq_true_eq] at h
  exact ⟨r, h.1.1, h.1.2, Ev.of (Qy.mono _) e⟩
 ·
  cases h
def fenceB (a : Nat) : Bool := match Qci.f 400 (a : Int) with
 | some r => r.1.length == a
 | none => false
theorem Qp6 : ((List.range' 1 10).all fenceB) = true := by decide +kernel
theorem fence_ok {a : Nat} (h1 : 1 ≤ a) (h2 : a ≤ 10) : ∃ R : List Int × Bool, R.1.length = a ∧ Ev (fun k => Qci.f k (a : Int)) R := by
 have h := Qp6
 rw [List.all_eq_true] at h
 have h := h a (by rw [List.mem_range'_1]; omega)
 unfold fenceB at h
 split at h
 ·
  rename_i r e
  exact ⟨r, beq_iff_eq.mp h, Ev.of (Qci.mono _) e⟩
 ·
  cases h
theorem Qpf {c : List Int} {n : Nat} (hn : 1 ≤ n) (hn2 : n ≤ 10) : ∀ (d : Nat) (x : List (List Int)) (t s : Int) (m : Nat), Cu c t m → m + 4 * d ≤ 100000 → Qj7 n x → x.length + d ≤ 1000 →
  ∃ (R : List Int) (t' s' : Int), R.length = n ∧ Cu c t' (m + 4 * d) ∧ Ev (fun k => Qs.l0 k (n : Int) x (d : Int) c t s) (R, t', s')
 | 0, x, t, s, m, h, hm, hx, hl => by
  obtain ⟨R, hR, e⟩ := Qmw (n := n) (by omega) x hx (by omega)
  refine ⟨R, t, s, hR, h.mono (by omega), Ev.step (fun _ => Qs.l0.eq_2 ..) (Qbh (by omega) (Ev.step (fun _ => Qs.j1.eq_2 ..) (Qbh (by simp) ?_)))⟩
  exact Ev.bind e (Ev.now _)
 | d + 1, x, t, s, m, h, hm, hx, hl => by
  by_cases c1 : n ≤ 1
  ·
   obtain ⟨R, hR, e⟩ := Qmw (n := n) (by omega) x hx (by omega)
   refine ⟨R, t, s, hR, h.mono (by omega), Ev.step (fun _ => Qs.l0.eq_2 ..) (Qh (by omega) (Ev.step (fun _ => Qs.j1.eq_2 ..) (Qbh (by rw [decide_eq_true_eq]; omega) ?_)))⟩
   exact Ev.bind e (Ev.now _)
  ·
   obtain ⟨v, t1, s1, e1, v0, v1, h1⟩ := Qej (s := s) (wrap64 ((n : Int) - 1)) h (by omega)
   obtain ⟨v2, t2, s2, e2, w0, w1, h2⟩ := Qej (s := s1) (wrap64 (wrap64 ((n : Int) - 1) - v)) h1 (by omega)
   rw [Qdt (x := (n : Int) - 1) (by omega) (by omega)] at v1
   obtain ⟨R, t3, s3, hR, h3, e3⟩ := Qpf hn hn2 d (x ++ [[v, wrap64 (wrap64 (v + 1) + v2)]]) t2 s2 (m + 4) (h2.mono (by omega)) (by omega) (fun z hz => by
    rcases List.mem_append.mp hz with hz | hz
    ·
     exact hx z hz
    ·
     rw [List.mem_singleton] at hz
     exact ⟨v, _, hz, v0, by omega⟩) (by rw [List.length_append, List.length_singleton]; omega)
   refine ⟨R, t3, s3, hR, h3.mono (by omega), Ev.step (fun _ => Qs.l0.eq_2 ..) (Qh (by omega) (Ev.step (fun _ => Qs.j1.eq_2 ..) (Qh (by rw [decide_eq_true_eq]; omega) ?_)))⟩
   refine Qbp e1 (Qbp e2 (Qh (by omega) ?_))
   rw [show wrap64 (((d + 1 : Nat) : Int) - 1) = (d : Int) by rw [Qdt (by omega) (by omega)]; omega]
   exact e3
theorem most_eq (a : Nat) (ha : a ≤ 10) : Qeh.f 1 (wrap64 (Int.tdiv (a : Int) 2)) = some ((max 1 (a / 2) : Nat) : Int) := by
 have e : wrap64 (Int.tdiv (a : Int) 2) = ((a / 2 : Nat) : Int) := by
  rw [Int.tdiv_eq_ediv_of_nonneg (by omega), Qdt (by omega) (by omega)]; omega
 rw [e]; unfold Qeh.f; split <;> (congr 1; omega)
theorem Qgq (n : Nat) (h : n ≤ 1000) : wrap64 (1 + (n : Int)) = ((1 + n : Nat) : Int) := by rw [Qdt (by omega) (by omega)]; omega
def Qk9 (c : List Int) (m : Nat) (f : Nat → Option (List Int × Int × Int)) : Prop := ∃ (R : List Int) (t' s' : Int), 1 ≤ R.length ∧ R.length ≤ 10 ∧ Cu c t' (m + 200) ∧ Ev f (R, t', s')
theorem sure_0 {c : List Int} {t s : Int} {m a : Nat} (ha : 1 ≤ a) (ha2 : a ≤ 10) (h : Cu c t (m + 2)) (hm : m ≤ 10000) :
  Qk9 c m (fun k => (Qz.f c t s 2).bind fun bt176 => (Qeh.f 1 (wrap64 (Int.tdiv (a : Int) 2))).bind fun t179 => (Qz.f c bt176.2.1 bt176.2.2 t179).bind fun bt180 => (Qbd.f k (wrap64 (1 + bt176.1)) (wrap64 (1 + bt180.1))).bind fun t183 => some (t183, bt180.2.1, bt180.2.2)) := by
 obtain ⟨w, t2, s2, e2, w0, w1, k2⟩ := Qej (s := s) 2 h (by omega)
 obtain ⟨wn, rfl⟩ : ∃ n : Nat, w = (n : Int) := ⟨w.toNat, by omega⟩
 obtain ⟨u, t3, s3, e3, u0, u1, k3⟩ := Qej (s := s2) ((max 1 (a / 2) : Nat) : Int) k2 (by omega)
 obtain ⟨un, rfl⟩ : ∃ n : Nat, u = (n : Int) := ⟨u.toNat, by omega⟩
 have hw : 1 + wn ≤ 2 := by omega
 have hu : 1 + un ≤ 5 := by omega
 obtain ⟨R, hR, e4⟩ := rect_ok (a := 1 + wn) (b := 1 + un) (Nat.le_add_right _ _) hw (Nat.le_add_right _ _) hu
 have hl : R.length ≤ 10 := by rw [hR]; exact Nat.mul_le_mul hw hu
 have hl0 : 1 ≤ R.length := by rw [hR]; exact Nat.mul_le_mul (Nat.le_add_right 1 wn) (Nat.le_add_right 1 un)
 refine ⟨R, t3, s3, hl0, hl, k3.mono (by omega), Qbp e2 (Qbp (most_eq a ha2) (Qbp e3 ?_))⟩
 dsimp only
 rw [Qgq wn (by omega), Qgq un (by omega)]
 exact Ev.bind e4 (Ev.now _)
theorem sure_1 {c : List Int} {t s : Int} {m : Nat} (h : Cu c t (m + 2)) (hm : m ≤ 10000) :
  Qk9 c m (fun k => (Qz.f c t s 2).bind fun bt186 => (Qy.f k (wrap64 (1 + bt186.1))).bind fun bt189 => some (bt189.1, bt186.2.1, bt186.2.2)) := by
 obtain ⟨w, t2, s2, e2, w0, w1, k2⟩ := Qej (s := s) 2 h (by omega)
 obtain ⟨wn, rfl⟩ : ∃ n : Nat, w = (n : Int) := ⟨w.toNat, by omega⟩
 obtain ⟨R, hR, hR2, e4⟩ := stair_ok (a := 1 + wn) (by omega) (by omega)
 refine ⟨R.1, t2, s2, hR, hR2, k2.mono (by omega), Qbp e2 ?_⟩
 dsimp only
 rw [Qgq wn (by omega)]
 exact Ev.bind e4 (Ev.now _)
theorem sure_2 {c : List Int} {t s : Int} {m a : Nat} (ha : 1 ≤ a) (ha2 : a ≤ 10) (h : Cu c t (m + 2)) (hm : m ≤ 10000) :
  Qk9 c m (fun k => (Qz.f c t s (a : Int)).bind fun bt194 => (Qci.f k (wrap64 (1 + bt194.1))).bind fun bt197 => some (bt197.1, bt194.2.1, bt194.2.2)) := by
 obtain ⟨w, t2, s2, e2, w0, w1, k2⟩ := Qej (s := s) (a : Int) h (by omega)
 obtain ⟨wn, rfl⟩ : ∃ n : Nat, w = (n : Int) := ⟨w.toNat, by omega⟩
 obtain ⟨R, hR, e4⟩ := fence_ok (a := 1 + wn) (by omega) (by omega)
 refine ⟨R.1, t2, s2, by omega, by omega, k2.mono (by omega), Qbp e2 ?_⟩
 dsimp only
 rw [Qgq wn (by omega)]
 exact Ev.bind e4 (Ev.now _)
theorem Qql (n : Nat) (h : n ≤ 1000) : wrap64 (2 * ((n : Nat) : Int)) = ((2 * n : Nat) : Int) := by rw [Qdt (by omega) (by omega)]; omega
theorem sure_3 {c : List Int} {t s : Int} {m a : Nat} (ha : 1 ≤ a) (ha2 : a ≤ 10) (h : Cu c t (m + 2)) (hm : m ≤ 10000) :
  Qk9 c m (fun k => (Qz.f c t s (a : Int)).bind fun bt202 => (Qz.f c bt202.2.1 bt202.2.2 (wrap64 (2 * (wrap64 (1 + bt202.1))))).bind fun bt205 => Qs.l0 k (wrap64 (1 + bt202.1)) ([] : List (List Int)) bt205.1 c bt205.2.1 bt205.2.2) := by
 obtain ⟨w, t2, s2, e2, w0, w1, k2⟩ := Qej (s := s) (a : Int) h (by omega)
 obtain ⟨wn, rfl⟩ : ∃ n : Nat, w = (n : Int) := ⟨w.toNat, by omega⟩
 obtain ⟨u, t3, s3, e3, u0, u1, k3⟩ := Qej (s := s2) ((2 * (1 + wn) : Nat) : Int) k2 (by omega)
 obtain ⟨un, rfl⟩ : ∃ n : Nat, u = (n : Int) := ⟨u.toNat, by omega⟩
 obtain ⟨R, t4, s4, hR, k4, e4⟩ := Qpf (c := c) (n := 1 + wn) (by omega) (by omega) un [] t3 s3 (m + 6) (k3.mono (by omega)) (by omega) (fun z hz => by cases hz) (by rw [List.length_nil]; omega)
 refine ⟨R, t4, s4, by omega, by omega, k4.mono (by omega), Qbp e2 ?_⟩
 dsimp only
 rw [Qgq wn (by omega), Qql (1 + wn) (by omega)]
 exact Qbp e3 e4
theorem Qpg {c : List Int} {t s : Int} {m : Nat} {a : Nat} (h1 : 1 ≤ a) (h2 : a ≤ 10) (h : Cu c t m) (hm : m ≤ 10000) : Qk9 c m (fun k => Qs.f k c t s (a : Int)) := by
 obtain ⟨v, t1, s1, e1, v0, v1, k1⟩ := Qej (s := s) 5 h (by omega)
 by_cases c0 : v = 0
 ·
  obtain ⟨R, t', s', a1, a2, a3, e⟩ := sure_0 (s := s1) h1 h2 k1 hm
  exact ⟨R, t', s', a1, a2, a3, Qbp e1 (Qh c0 e)⟩
 ·
  by_cases c1 : v = 1
  ·
   obtain ⟨R, t', s', a1, a2, a3, e⟩ := sure_1 (s := s1) k1 hm
   exact ⟨R, t', s', a1, a2, a3, Qbp e1 (Qbh c0 (Qh c1 e))⟩
  ·
   by_cases c2 : v = 2
   ·
    obtain ⟨R, t', s', a1, a2, a3, e⟩ := sure_2 (s := s1) h1 h2 k1 hm
    exact ⟨R, t', s', a1, a2, a3, Qbp e1 (Qbh c0 (Qbh c1 (Qh c2 e)))⟩
   ·
    obtain ⟨R, t', s', a1, a2, a3, e⟩ := sure_3 (s := s1) h1 h2 k1 hm
    exact ⟨R, t', s', a1, a2, a3, Qbp e1 (Qbh c0 (Qbh c1 (Qbh c2 e)))⟩
theorem Qoc (c : List Int) (t s : Int) : ∀ (d i : Nat) (F : List Int), i + d = 11 → F.length + d ≤ 1000 → ∃ R : List Int, R.length = F.length + d ∧ Ev (fun k => Qbm.l0 k (i : Int) c t s F) (R, t, s)
 | 0, i, F, h, hF => ⟨F, rfl, Ev.step (fun _ => Qbm.l0.eq_2 ..) (Qbh (by omega) (Ev.now _))⟩
 | d + 1, i, F, h, hF => by
  obtain ⟨R, hR, e⟩ := Qoc c t s d (i + 1) (F ++ [0]) (by omega) (by rw [List.length_append, List.length_singleton]; omega)
  refine ⟨R, by rw [hR, List.length_append, List.length_singleton]; omega, Ev.step (fun _ => Qbm.l0.eq_2 ..) (Qh (by omega) (Qh (by omega) ?_))⟩
  rw [Qb1 (by omega)]; exact e
theorem poset_ok {c : List Int} {t s : Int} {m : Nat} {a : Nat} (h1 : 1 ≤ a) (h2 : a ≤ 10) (h : Cu c t m) (hm : m ≤ 5000) : ∃ (R : List Int) (t' s' : Int), R.length ≤ 21 ∧ Cu c t' (m + 300) ∧ Ev (fun k => Qbm.f k c t s (a : Int)) (R, t', s') := by
 obtain ⟨R, t1, s1, hR, hR2, k1, e1⟩ := Qpg (s := s) h1 h2 h (by omega)
 obtain ⟨v, t2, s2, e2, v0, v1, k2⟩ := Qej (s := s1) 20 k1 (by omega)
 have eo := Qkz R (by omega)
 by_cases c0 : v = 0
 ·
  obtain ⟨w, t3, s3, e3, w0, w1, k3⟩ := Qej (s := s2) (R.length : Int) k2 (by omega)
  obtain ⟨u, t4, s4, e4, _, k4⟩ := Qiy (s := s3) [(-1), 1, 3, shl .i64 1 w, 4611686018427387904] (by simp) k3 (by omega)
  refine ⟨R.set w.toNat u, t4, s4, by rw [List.length_set]; omega, k4.mono (by omega), Ev.bind e1 (Qbp eo (Qbp e2 (Qh c0 (Qbp e3 (Qh w0 (Qbp e4 (Qh ?_ (Ev.now _))))))))⟩
  show w < (R.length : Int)
  omega
 ·
  by_cases c1 : v = 1
  ·
   exact ⟨[], t2, s2, by simp, k2.mono (by omega), Ev.bind e1 (Qbp eo (Qbp e2 (Qbh c0 (Qh c1 (Ev.now _)))))⟩
  ·
   by_cases c2 : v = 2
   ·
    obtain ⟨F, hF, e⟩ := Qoc c t2 s2 11 0 R (by omega) (by omega)
    exact ⟨F, t2, s2, by omega, k2.mono (by omega), Ev.bind e1 (Qbp eo (Qbp e2 (Qbh c0 (Qbh c1 (Qh c2 e)))))⟩
   ·
    exact ⟨R, t2, s2, by omega, k2.mono (by omega), Ev.bind e1 (Qbp eo (Qbp e2 (Qbh c0 (Qbh c1 (Qbh c2 (Ev.now _))))))⟩
def Qpe (a : Nat) : Bool := match Qy.f 200 (a : Int) with
 | some r => decide (1 ≤ r.1.length) && decide (r.1.length ≤ 10) && r.2
 | none => false
theorem Qpy : ((List.range' 1 3).all Qpe) = true := by decide +kernel
theorem Qqi {a : Nat} (h1 : 1 ≤ a) (h2 : a ≤ 3) : ∃ R : List Int × Bool, 1 ≤ R.1.length ∧ R.1.length ≤ 10 ∧ Ev (fun k => Qy.f k (a : Int)) R := by
 have h := Qpy
 rw [List.all_eq_true] at h
 have h := h a (by rw [List.mem_range'_1]; omega)
 unfold Qpe at h
 split at h
 ·
  rename_i r e
  rw [Bool.and_eq_true, Bool.and_eq_true, decide_eq_true_eq, decide_eq_true_eq] at h
  exact ⟨r, h.1.1, h.1.2, Ev.of (Qy.mono _) e⟩
 ·
  cases h
def PosR (c : List Int) (M : Nat) (f : Nat → Option (List Int × Int × Int)) : Prop := ∃ (R : List Int) (t' s' : Int), R.length ≤ 21 ∧ Cu c t' M ∧ Ev f (R, t', s')
theorem Qmz {c : List Int} {t s : Int} {m : Nat} (R : List Int) (hR : R.length ≤ 21) (h : Cu c t m) (hm : m ≤ 100000) : PosR c (m + 10) (fun k => Q8.j1 k c t s R) := by
 obtain ⟨o, t1, s1, e1, k1⟩ := Qlt (s := s) 4 h (by omega)
 by_cases ho : o = true
 ·
  obtain ⟨v, t2, s2, e2, v0, v1, k2⟩ := Qej (s := s1) 3 k1 (by omega)
  obtain ⟨vn, rfl⟩ : ∃ n : Nat, v = (n : Int) := ⟨v.toNat, by omega⟩
  obtain ⟨Q, q1, q2, e3⟩ := Qqi (a := 1 + vn) (by omega) (by omega)
  refine ⟨Q.1, t2, s2, by omega, k2.mono (by omega), Ev.step (fun _ => Q8.j1.eq_2 ..) (Qbp e1 (Qh ho (Qbp e2 ?_)))⟩
  dsimp only
  rw [Qgq vn (by omega)]
  exact Ev.bind e3 (Ev.now _)
 ·
  exact ⟨R, t1, s1, hR, k1.mono (by omega), Ev.step (fun _ => Q8.j1.eq_2 ..) (Qbp e1 (Qbh ho (Ev.now _)))⟩
theorem Qm0 {c : List Int} {a : Nat} (h1 : 1 ≤ a) (h2 : a ≤ 10) : ∀ (d i : Nat) (R : List Int) (t s : Int) (m : Nat), i + d = 4 → R.length ≤ 21 → Cu c t m → m + 200 * d ≤ 6000 →
  PosR c (m + 200 * d + 10) (fun k => Q8.l0 k (a : Int) (i : Int) c t s R)
 | 0, i, R, t, s, m, h, hR, hc, hm => by
  obtain ⟨R', t', s', g1, g2, e⟩ := Qmz (s := s) R hR hc (by omega)
  exact ⟨R', t', s', g1, g2, Ev.step (fun _ => Q8.l0.eq_2 ..) (Qbh (by omega) e)⟩
 | d + 1, i, R, t, s, m, h, hR, hc, hm => by
  obtain ⟨R1, t1, s1, g1, g2, e1⟩ := Qmz (s := s) R hR hc (by omega)
  by_cases hg : Qf0 R = true
  ·
   obtain ⟨p, rfl, g⟩ := Qf6 hg
   by_cases hr : Qdk p = true
   ·
    exact ⟨R1, t1, s1, g1, g2.mono (by omega), Ev.step (fun _ => Q8.l0.eq_2 ..) (Qh (by omega) (Ev.bind (Qfy _) (Qh hg (Ev.bind (Qie g) (Qh hr e1)))))⟩
   ·
    obtain ⟨Q, t2, s2, q1, q2, q3, e2⟩ := Qpg (s := s) h1 h2 hc (by omega)
    obtain ⟨R3, t3, s3, g3, k3, e3⟩ := Qm0 h1 h2 d (i + 1) Q t2 s2 (m + 200) (by omega) (by omega) q3 (by omega)
    refine ⟨R3, t3, s3, g3, k3.mono (by omega), Ev.step (fun _ => Q8.l0.eq_2 ..) (Qh (by omega) (Ev.bind (Qfy _) (Qh hg (Ev.bind (Qie g) (Qbh hr (Ev.bind e2 ?_))))))⟩
    rw [Qb1 (by omega)]; exact e3
  ·
   exact ⟨R1, t1, s1, g1, g2.mono (by omega), Ev.step (fun _ => Q8.l0.eq_2 ..) (Qh (by omega) (Ev.bind (Qfy _) (Qbh hg e1)))⟩
theorem Qjz {c : List Int} {t s : Int} {m : Nat} {a : Nat} (h1 : 1 ≤ a) (h2 : a ≤ 10) (h : Cu c t m) (hm : m ≤ 4000) : PosR c (m + 1200) (fun k => Q8.f k c t s (a : Int)) := by
 obtain ⟨R, t1, s1, hR, k1, e1⟩ := poset_ok (s := s) h1 h2 h (by omega)
 obtain ⟨R2, t2, s2, g2, k2, e2⟩ := Qm0 (c := c) h1 h2 4 0 R t1 s1 (m + 300) (by omega) hR k1 (by omega)
 exact ⟨R2, t2, s2, g2, k2.mono (by omega), Ev.bind e1 e2⟩
theorem least_12 (n : Nat) : Qe6.f (n : Int) 12 = some ((min n 12 : Nat) : Int) := by unfold Qe6.f; split <;> (congr 1; omega)
theorem Qoj {c : List Int} {t s : Int} {m : Nat} (l : List Int) (h : Cu c t m) (hm : m ≤ 100000) : ∃ v t' s', Qcv.f c t s l = some (v, t', s') ∧ Cu c t' (m + 8) := by
 obtain ⟨a, t1, s1, e1, _, _, k1⟩ := Qej (s := s) 256 h (by omega)
 obtain ⟨b, t2, s2, e2, _, _, k2⟩ := Qej (s := s1) 16 k1 (by omega)
 obtain ⟨o, t3, s3, e3, k3⟩ := Qlt (s := s2) 12 k2 (by omega)
 unfold Qcv.f
 rw [least_12, Option.bind_some, e1, Option.bind_some]
 dsimp only
 rw [e2, Option.bind_some, if_pos (by omega)]
 dsimp only
 rw [e3, Option.bind_some]
 dsimp only
 by_cases ho : o = true
 ·
  obtain ⟨u, t4, s4, e4, _, k4⟩ := Qiy (s := s3) [(-1), shl .i64 1 ((min l.length 12 : Nat) : Int), 0, wrap64 ((shl .i64 1 ((min l.length 12 : Nat) : Int)) - 1), 4611686018427387904] (by simp) k3 (by omega)
  rw [if_pos ho, e4, Option.bind_some]
  exact ⟨_, _, _, rfl, k4⟩
 ·
  rw [if_neg ho]
  exact ⟨_, _, _, rfl, k3.mono (by omega)⟩
theorem and_nat {s : Nat} (b : Int) (h : s < 2 ^ 62) : ∃ v : Nat, v ≤ s ∧ Go.bits .and .i64 (s : Int) b = (v : Int) := by
 have e1 : (BitVec.ofInt IntKind.i64.bits (s : Int)).toNat = s := by
  show (BitVec.ofInt 64 (s : Int)).toNat = s
  rw [BitVec.toNat_ofInt]; omega
 refine ⟨(BitVec.ofInt IntKind.i64.bits (s : Int)).toNat &&& (BitVec.ofInt IntKind.i64.bits b).toNat, ?_, ?_⟩
 ·
  exact Nat.le_trans Nat.and_le_left (by rw [e1]; exact Nat.le_refl _)
 ·
  simp only [Go.bits, BitVec.toNat_and]
  have h2 : (BitVec.ofInt IntKind.i64.bits (s : Int)).toNat &&& (BitVec.ofInt IntKind.i64.bits b).toNat ≤ s := Nat.le_trans Nat.and_le_left (by rw [e1]; exact Nat.le_refl _)
  exact Qgu (by omega)
def IdR (c : List Int) (M : Nat) (f : Nat → Option (List Int × Int × Int × Int)) : Prop := ∃ (R : List Int) (v t' s' : Int), R.length ≤ 21 ∧ Cu c t' M ∧ Ev f (R, v, t', s')
theorem Qio {c : List Int} {t s : Int} {m : Nat} (R : List Int) (v : Int) (b : Bool) (hR : R.length ≤ 21) (h : Cu c t m) (hm : m ≤ 100000) (hb : b = true → setB R v = true) : IdR c (m + 10) (fun k => Qv.j0 k v b c t s R) := by
 cases b with
 | false => exact ⟨R, v, t, s, hR, h.mono (by omega), Ev.step (fun _ => Qv.j0.eq_2 ..) (Qbh (by simp) (Ev.now _))⟩
 | true =>
  obtain ⟨p, x, rfl, rfl, g, hx⟩ := Qmi (hb rfl)
  have gl := g.le
  obtain ⟨u, t1, s1, e1, k1⟩ := Qoj (s := s) (toI p) h hm
  have hx62 : x < 2 ^ 62 := Nat.lt_of_lt_of_le hx (Nat.pow_le_pow_right (by omega) (by omega))
  obtain ⟨w, hw, ew⟩ := and_nat u hx62
  have hw2 : w < 2 ^ p.length := by omega
  refine ⟨toI p, ((Qf5 p (top p w) : Nat) : Int), t1, s1, hR, k1.mono (by omega), Ev.step (fun _ => Qv.j0.eq_2 ..) (Qh rfl (Qbp e1 ?_))⟩
  dsimp only
  rw [ew]
  exact Ev.bind (poTop_ev g hw2) (Ev.bind (Qqe g (top_lt hw2)) (Ev.now _))
theorem Qgs {c : List Int} {t s : Int} {m : Nat} {a : Nat} (h1 : 1 ≤ a) (h2 : a ≤ 10) (h : Cu c t m) (hm : m ≤ 4000) : IdR c (m + 1300) (fun k => Qv.f k c t s (a : Int)) := by
 obtain ⟨R, t1, s1, hR, k1, e1⟩ := Qjz (s := s) h1 h2 h hm
 obtain ⟨v, t2, s2, e2, k2⟩ := Qoj (s := s1) R k1 (by omega)
 obtain ⟨Q, w, t3, s3, g3, k3, e3⟩ := Qio (s := s2) R v false hR k2 (by omega) (fun e => by cases e)
 by_cases hg : Qf0 R = true
 ·
  obtain ⟨p, rfl, g⟩ := Qf6 hg
  by_cases hs : inB v 0 ((2 ^ p.length - 1 : Nat) : Int) = true
  ·
   obtain ⟨o, t4, s4, e4, k4⟩ := Qlt (s := s2) 12 k2 (by omega)
   obtain ⟨Q', w', t5, s5, g5, k5, e5⟩ := Qio (s := s4) (toI p) v (!o) hR k4 (by omega) (fun _ => by unfold setB; rw [hg, toI_len, hs]; rfl)
   exact ⟨Q', w', t5, s5, g5, k5.mono (by omega), Ev.bind e1 (Qbp e2 (Ev.bind (Qfy _) (Qh hg (Qbp (Qk4 p v g.le) (Qh hs (Qbp e4 e5))))))⟩
  ·
   exact ⟨Q, w, t3, s3, g3, k3.mono (by omega), Ev.bind e1 (Qbp e2 (Ev.bind (Qfy _) (Qh hg (Qbp (Qk4 p v g.le) (Qbh hs e3)))))⟩
 ·
  exact ⟨Q, w, t3, s3, g3, k3.mono (by omega), Ev.bind e1 (Qbp e2 (Ev.bind (Qfy _) (Qbh hg e3)))⟩
def Draw1 (f : Nat → Option (List Int)) : Prop := ∃ R : List Int, R.length ≤ 21 ∧ Ev f R
def Draw2 (f : Nat → Option (List Int × Int)) : Prop := ∃ (R : List Int) (v : Int), R.length ≤ 21 ∧ Ev f (R, v)
theorem Qij {c : List Int} (h : Cu c 0 0) : Draw2 (fun k => Qcs.f k c) := by
 obtain ⟨R, v, t, s, hR, _, e⟩ := Qgs (s := 0) (a := 10) (by omega) (by omega) h (by omega)
 exact ⟨R, v, hR, Ev.bind e (Ev.now _)⟩
theorem Qld {c : List Int} (h : Cu c 0 0) : Draw2 (fun k => Qdd.f k c) := by
 obtain ⟨R, v, hR, e⟩ := Qij h
 exact ⟨R, v, hR, Ev.bind e (Ev.now _)⟩
theorem Qm6 {c : List Int} (h : Cu c 0 0) : Draw1 (fun k => Qcp.f k c) := by
 obtain ⟨R, t, s, hR, _, e⟩ := Qjz (s := 0) (a := 7) (by omega) (by omega) h (by omega)
 exact ⟨R, hR, Ev.bind e (Ev.now _)⟩
theorem Qjh {c : List Int} (h : Cu c 0 0) : Draw1 (fun k => Qcy.f k c) := by
 obtain ⟨R, hR, e⟩ := Qm6 h
 exact ⟨R, hR, Ev.bind e (Ev.now _)⟩
theorem Qon {c : List Int} (h : Cu c 0 0) : Draw1 (fun k => Qdy.f k c) := by
 obtain ⟨R, t, s, hR, _, e⟩ := Qjz (s := 0) (a := 10) (by omega) (by omega) h (by omega)
 exact ⟨R, hR, Ev.bind e (Ev.now _)⟩
theorem Qmb {c : List Int} (h : Cu c 0 0) : ∃ (R : List Int) (v i : Int), R.length ≤ 21 ∧ Ev (fun k => Qcc.f k c) (R, v, i) := by
 obtain ⟨R, v, t, s, hR, k1, e⟩ := Qgs (s := 0) (a := 10) (by omega) (by omega) h (by omega)
 obtain ⟨u, t2, s2, e2, _, k2⟩ := Qiy (s := s) [0, 1, 2, 3, 5, 10, (-1)] (by simp) k1 (by omega)
 exact ⟨R, v, u, hR, Ev.bind e (Qbp e2 (Ev.now _))⟩
theorem rvB_mk {p : List Nat} (g : Good p) (hr : Qdk p = true) {s : Nat} (hs : IsId p s) : rvB (toI p) (s : Int) = true := by
 unfold rvB; rw [Qnv g hs, Qlz g hr]; rfl
section
variable {p : List Nat} (g : Good p) {s : Nat} (hs : IsId p s)
include g hs
omit hs in
theorem Qpb {n : Nat} (hn : n ≤ 1000) : ∀ (d i s : Nat), i + d = n → IsId p s → Ev (fun k => Qbl.l0 k (s : Int) (n : Int) (n : Int) (i : Int) (toI p)) ((itr (row p) d s : Nat) : Int)
 | 0, i, s, h, hs => by
  have e : mx (wrap64 (-(n : Int))) 0 = 0 := by
   rw [Qdt (by omega) (by omega)]; unfold mx; split <;> omega
  refine Ev.step (fun _ => Qbl.l0.eq_2 ..) (Qbh (by omega) ?_)
  rw [e]
  exact Ev.step (fun _ => Qbl.l1.eq_2 ..) (Qbh (by omega) (Ev.now _))
 | d + 1, i, s, h, hs => by
  refine Ev.step (fun _ => Qbl.l0.eq_2 ..) (Qh (by omega) (Ev.bind (Ql0 g hs.1) ?_))
  rw [Qb1 (by omega), Qhe (row p) 1 s d]
  exact Qpb hn d (i + 1) (row p s) (by omega) (Ql1 g hs)
theorem Qqj {n : Nat} (hn : n ≤ 1000) : Ev (fun k => Qdg.f k (toI p) (s : Int) (n : Int)) (((itr (row p) n s : Nat) : Int), true) := by
 have h := Qpb g hn n 0 s (Nat.zero_add _) hs
 have hb : Ev (fun k => Qbl.f k (toI p) (s : Int) (n : Int)) ((itr (row p) n s : Nat) : Int) := by
  unfold Qbl.f
  rw [show mx (n : Int) 0 = (n : Int) by unfold mx; split <;> omega]
  exact h
 exact Ev.bind (Qlp _ _) (Qh (Qnv g hs) (Qbp (Qh9 _ _ _) (Qh (by rw [Qe3]; omega) (Ev.bind hb (Ev.now _)))))
theorem rowm_val : Ev (fun k => Qd9.f k (toI p) (s : Int)) (((row p s : Nat) : Int), true) :=
 Ev.bind (Qqj g hs (n := 1) (by omega)) (Ev.now _)
end
end Go.Proofs.YtkgngggppcmpfaaGreat.M
end
section
namespace Go.Proofs.YtkgngggppcmpfaaGreat.M
open Go.RowKit Go.Proofs.YtkgngggppcmpfaaGreatW.PrintWords Go.Proofs.YtkgngggppcmpfaaGreatW.PrintLast Go.Proofs.YtkgngggppcmpfaaGreatW.PrintMore Go.Proofs.YtkgngggppcmpfaaGreat.L
set_option linter.unusedVariables false
def DrawW (f : Nat → Option (List Int × Int × List Int)) : Prop := ∃ (R : List Int) (v : Int) (x : List Int), R.length ≤ 21 ∧ x.length ≤ 1000 ∧ Ev f (R, v, x)
theorem Qlf {c : List Int} (R : List Int) (hR : R.length ≤ 21) (v : Int) : ∀ (d : Nat) (x : List Int) (t s : Int) (m : Nat), x.length + d = 50 → Cu c t m → m + 2 * d ≤ 800000 → DrawW (fun k => Q7.l1 k v x c t s R)
 | 0, x, t, s, m, h, hc, hm => by
  obtain ⟨w, t1, s1, e1, w0, w1, k1⟩ := Qej (s := s) 2 hc (by omega)
  refine ⟨R, v, x, hR, by omega, Ev.step (fun _ => Q7.l1.eq_2 ..) (Qbp e1 (Qbh ?_ (Ev.now _)))⟩
  dsimp only
  rw [Qdt (by omega) (by omega)]; omega
 | d + 1, x, t, s, m, h, hc, hm => by
  obtain ⟨w, t1, s1, e1, w0, w1, k1⟩ := Qej (s := s) 2 hc (by omega)
  obtain ⟨R', v', x', g1, g2, e⟩ := Qlf (c := c) R hR v d (x ++ [0]) t1 s1 (m + 2) (by rw [List.length_append, List.length_singleton]; omega) k1 (by omega)
  by_cases cc : (x.length : Int) < wrap64 (40 + w)
  ·
   exact ⟨R', v', x', g1, g2, Ev.step (fun _ => Q7.l1.eq_2 ..) (Qbp e1 (Qh cc (Qh (by omega) e)))⟩
  ·
   exact ⟨R, v, x, hR, by omega, Ev.step (fun _ => Q7.l1.eq_2 ..) (Qbp e1 (Qbh cc (Ev.now _)))⟩
theorem Qle {c : List Int} (R : List Int) (hR : R.length ≤ 21) (v : Int) : ∀ (d : Nat) (x : List Int) (t s : Int) (m : Nat), x.length + d ≤ 50 → Cu c t m → m + 2 * d ≤ 700000 → DrawW (fun k => Q7.l0 k v x (d : Int) c t s R)
 | 0, x, t, s, m, h, hc, hm => by
  obtain ⟨o, t1, s1, e1, k1⟩ := Qlt (s := s) 25 hc (by omega)
  by_cases ho : o = true
  ·
   obtain ⟨R', v', x', g1, g2, e⟩ := Qlf (c := c) R hR v (50 - x.length) x t1 s1 (m + 2) (by omega) k1 (by omega)
   exact ⟨R', v', x', g1, g2, Ev.step (fun _ => Q7.l0.eq_2 ..) (Qbh (by omega) (Qbp e1 (Qh ho e)))⟩
  ·
   exact ⟨R, v, x, hR, by omega, Ev.step (fun _ => Q7.l0.eq_2 ..) (Qbh (by omega) (Qbp e1 (Qbh ho (Ev.now _))))⟩
 | d + 1, x, t, s, m, h, hc, hm => by
  obtain ⟨w, t1, s1, e1, w0, w1, k1⟩ := Qej (s := s) 3 hc (by omega)
  obtain ⟨R', v', x', g1, g2, e⟩ := Qle (c := c) R hR v d (x ++ [w]) t1 s1 (m + 2) (by rw [List.length_append, List.length_singleton]; omega) k1 (by omega)
  refine ⟨R', v', x', g1, g2, Ev.step (fun _ => Q7.l0.eq_2 ..) (Qh (by omega) (Qbp e1 (Qh (by omega) ?_)))⟩
  rw [show wrap64 (((d + 1 : Nat) : Int) - 1) = (d : Int) by rw [Qdt (by omega) (by omega)]; omega]
  exact e
theorem Qlg {c : List Int} (h : Cu c 0 0) : DrawW (fun k => Q7.f k c) := by
 obtain ⟨R, v, t, s, hR, k1, e⟩ := Qgs (s := 0) (a := 8) (by omega) (by omega) h (by omega)
 obtain ⟨u, t2, s2, e2, hu, k2⟩ := Qiy (s := s) [0, 1, 3, 8] (by simp) k1 (by omega)
 have hu' : 0 ≤ u ∧ u ≤ 8 := by simp only [List.mem_cons, List.not_mem_nil, or_false] at hu; omega
 obtain ⟨un, rfl⟩ : ∃ n : Nat, u = (n : Int) := ⟨u.toNat, by omega⟩
 obtain ⟨R', v', x', g1, g2, e3⟩ := Qle (c := c) R hR v un [] t2 s2 _ (by rw [List.length_nil]; omega) k2 (by omega)
 exact ⟨R', v', x', g1, g2, Ev.bind e (Qbp e2 e3)⟩
theorem Qpk {p : List Nat} (g : Good p) (hr : Qdk p = true) {s i : Nat} (hs : IsId p s) (hi : i < hgh p) : Ev (fun k => Qc9.f k (toI p) (s : Int) (i : Int)) (((tgR p s i : Nat) : Int), true) := by
 obtain ⟨q, _, q2, _, q4⟩ := Qnd (toI p) (s : Int) [(i : Int)] (by simp)
 have hq := (q4 p s rfl rfl g hs hr (by simp)).2 (by
  rw [List.all_eq_true]
  intro x hx
  rw [List.mem_singleton] at hx
  rw [Qe3]; omega)
 rw [hq] at q2
 exact Ev.bind q2 (Ev.now _)
theorem gyr_val {p : List Nat} (g : Good p) (hr : Qdk p = true) {s : Nat} (hs : IsId p s) : Ev (fun k => Qdp.f k (toI p) (s : Int)) (((gyrN p s : Nat) : Int), true) := by
 have gh := Qe5 g
 have hv := Qhd (hgh p)
 exact Ev.bind (Qc5 _ _) (Qh (rvB_mk g hr hs) (Ev.bind (Qkb g) (Ev.bind (Qe4 g _ Qg1 (by omega) hs.1) (Ev.now _))))
theorem Qo5 {p : List Nat} (g : Good p) (hr : Qdk p = true) {s : Nat} (hs : IsId p s) : Ev (fun k => Qck.f k (toI p) (s : Int)) (((((gyW (hgh p)).reverse.foldl (tgR p) s : Nat) : Int)), true) := by
 have gh := Qe5 g
 have hv := Qhd (hgh p)
 refine Ev.bind (Qc5 _ _) (Qh (rvB_mk g hr hs) (Ev.bind (Qkb g) ?_))
 have hb : Ev (fun k => Qd0.f k (toI (gyW (hgh p)))) (toI (gyW (hgh p)).reverse) := by
  refine Qbp (Qnb _ (by rw [toI_len]; omega)) (Ev.bind (Qlx _ (by rw [toI_len]; omega)) ?_)
  rw [Qpj]; exact Ev.now _
 exact Ev.bind hb (Ev.bind (Qe4 g _ (fun r hr => Qg1 r (List.mem_reverse.mp hr)) (by rw [List.length_reverse]; omega) hs.1) (Ev.now _))
theorem Qnr (p : List Nat) : In (hgh p) (gyW (hgh p)) := fun r hr => Qg1 r hr
theorem Qns {p : List Nat} (g : Good p) (hr : Qdk p = true) {s : Nat} (hs : IsId p s) : IsId p (gyrN p s) := (Qiv g hr).foldI _ s (Qnr p) hs
theorem gyr_back {p : List Nat} (g : Good p) (hr : Qdk p = true) {s : Nat} (hs : IsId p s) : (gyW (hgh p)).reverse.foldl (tgR p) (gyrN p s) = s := by
 have h := (Qiv g hr).cancel _ (Qnr p) s hs
 rw [List.foldl_append] at h
 exact h
theorem gyr_lens {p : List Nat} (g : Good p) (hr : Qdk p = true) : Qc7.sort (lens (cycF (row p) ((idls p).length + 1) (idls p) [])) = Qc7.sort (lens (cycF (gyrN p) ((idls p).length + 1) (idls p) [])) := by
 have S := Qiv g hr
 obtain ⟨w, hw, hc⟩ := gyr_conj g hr
 have fi : ∀ u : List Nat, In (hgh p) u → ∀ s ∈ idls p, ∀ t ∈ idls p, u.foldl (tgR p) s = u.foldl (tgR p) t → s = t := fun u hu s hs t ht e => by
  have a := S.cancel u hu s (Qdf.mp hs)
  have b := S.cancel u hu t (Qdf.mp ht)
  rw [List.foldl_append] at a b
  rw [e] at a
  exact a.symm.trans b
 have hp := Qp4 (L := idls p) (f := row p) (g := gyrN p) (φ := fun s => w.foldl (tgR p) s) (Qps p) (fun s hs => Qdf.mpr (Ql1 g (Qdf.mp hs))) (fun s hs t ht e => row_inj g (Qdf.mp hs) (Qdf.mp ht) e) (fun s hs => Qdf.mpr (Qns g hr (Qdf.mp hs))) (fi _ (Qnr p)) (fun s hs => Qdf.mpr (S.foldI w s hw (Qdf.mp hs))) (fi w hw) (fun s hs => hc s (Qdf.mp hs)) (N := (idls p).length + 1) (M := (idls p).length + 1) (by omega) (by omega)
 exact Qpd (Qkt _) ((Qm5 _).trans hp.symm)
theorem gyrL_val {p : List Nat} (g : Good p) (hr : Qdk p = true) : Ev (fun k => Qcx.f k (toI p)) (Qc7.sort (lens (cycF (gyrN p) ((idls p).length + 1) (idls p) [])), true) := by
 have gh := Qe5 g
 have gl := Qi0 g
 have hv := Qhd (hgh p)
 have gp := Qf8 g
 have hcl := Qhn (f := gyrN p) (N := (idls p).length + 1) (idls p) []
 have hll : (lens (cycF (gyrN p) ((idls p).length + 1) (idls p) [])).length ≤ 1024 := by unfold lens; rw [List.length_map]; omega
 have hM : ∀ s ∈ idls p, Ev (fun k => (fun k x => Qp.f k (toI p) x (toI (gyW (hgh p)))) k (s : Int)) ((gyrN p s : Nat) : Int) := fun s hs => Qe4 g _ Qg1 (by omega) (Qdf.mp hs).1
 have hb : ∀ s ∈ idls p, s ≤ 1000000 := fun s hs => by have := (Qdf.mp hs).1; omega
 have hcy := Qg7 (M := fun k x => Qp.f k (toI p) x (toI (gyW (hgh p)))) hM (fun s hs => Qdf.mpr (Qns g hr (Qdf.mp hs))) (by omega) hb
 have hle := Qi1 ((cycF (gyrN p) ((idls p).length + 1) (idls p) []).map toI) (by rw [List.length_map]; omega)
 rw [Qk0] at hle
 have hso := Qj2 (l := lens (cycF (gyrN p) ((idls p).length + 1) (idls p) [])) (by omega)
 exact Ev.bind (Qfi _) (Qh (Qlz g hr) (Ev.bind (Qkb g) (Ev.bind (Qg8 g) (Qh (by rw [toI_len]; omega) (Ev.bind hcy (Ev.bind hle (Qbp hso (Ev.now _))))))))
theorem Qqg {p : List Nat} (g : Good p) : Ev (fun k => Qdm.f k (toI p)) (Qc7.sort (lens (cycF (row p) ((idls p).length + 1) (idls p) [])), true) := by
 have gl := Qi0 g
 have gp := Qf8 g
 have hcl := Qhn (f := row p) (N := (idls p).length + 1) (idls p) []
 have hll : (lens (cycF (row p) ((idls p).length + 1) (idls p) [])).length ≤ 1024 := by unfold lens; rw [List.length_map]; omega
 have hM : ∀ s ∈ idls p, Ev (fun k => Qb7.f k (toI p) (s : Int)) ((row p s : Nat) : Int) := fun s hs => Ql0 g (Qdf.mp hs).1
 have hb : ∀ s ∈ idls p, s ≤ 1000000 := fun s hs => by have := (Qdf.mp hs).1; omega
 have hcy := Qg7 (M := fun k x => Qb7.f k (toI p) x) hM (fun s hs => Qdf.mpr (Ql1 g (Qdf.mp hs))) (by omega) hb
 have hle := Qi1 ((cycF (row p) ((idls p).length + 1) (idls p) []).map toI) (by rw [List.length_map]; omega)
 rw [Qk0] at hle
 have hso := Qj2 (l := lens (cycF (row p) ((idls p).length + 1) (idls p) [])) (by omega)
 have hor : Ev (fun k => Qde.f k (toI p)) ((cycF (row p) ((idls p).length + 1) (idls p) []).map toI) := Ev.bind (Qg8 g) (Qh (by rw [toI_len]; omega) hcy)
 exact Ev.bind (Qhb _) (Qh (Qg0 g) (Ev.bind hor (Ev.bind hle (Qbp hso (Ev.now _)))))
theorem rkJ6 {c : List Int} (hc : Cu c 0 0) : Ev (fun k => laws_FnRanksMakeRowmotion.j6 k c) true := by
 obtain ⟨R, hR, e⟩ := Qjh hc
 obtain ⟨r, hr, e1, e2⟩ := Qgm R (by omega)
 refine Ev.step (fun _ => laws_FnRanksMakeRowmotion.j6.eq_2 ..) (Ev.bind e (Ev.bind e2 (Ev.bind e1 (Qbh (by simp) (Ev.bind (Qi2 _ (by omega)) (Ev.step (fun _ => laws_FnRanksMakeRowmotion.j7.eq_2 ..) (Qbh (by simp) ?_)))))))
 by_cases h : rgB R = true
 ·
  obtain ⟨p, rfl, g, hk⟩ := Qj0 h
  have er := Qgz e2 (gyrL_val g hk)
  have es := Qqg g
  rw [gyr_lens g hk] at es
  rw [er] at hr ⊢
  exact Qh rfl (Ev.bind es (Qh rfl (Ev.bind (Qi2 _ (by omega)) (Ev.now _))))
 ·
  have er : r = ([], false) := Qgz e1 (Ev.bind (Qgg _) (Qbh h (Ev.now _)))
  rw [er]
  exact Qbh (by simp) (Ev.now _)
theorem rkJ3 {c : List Int} (hc : Cu c 0 0) : Ev (fun k => laws_FnRanksMakeRowmotion.j3 k c) true := by
 obtain ⟨R, v, i, hR, e⟩ := Qmb hc
 obtain ⟨r, r1, r2⟩ := Qhx R v i (by omega)
 obtain ⟨R3, v3, x3, hR3, hx3, e3⟩ := Qlg hc
 obtain ⟨q, q1, q2⟩ := Qhl R3 v3 x3 (by omega) (by omega)
 obtain ⟨R4, hR4, e4⟩ := Qon hc
 obtain ⟨u, hu, u1, u2⟩ := Qix R4 (by omega)
 obtain ⟨R5, v5, hR5, e5⟩ := Qld hc
 obtain ⟨a, a1, a2⟩ := Qhk R5 v5 (by omega)
 obtain ⟨b, b1, b2⟩ := Qhv R5 v5 (by omega)
 have ej := rkJ6 hc
 refine Ev.step (fun _ => laws_FnRanksMakeRowmotion.j3.eq_2 ..) (Ev.bind e (Ev.bind r2 (Ev.bind r1 (Ev.bind e3 (Ev.bind q2 (Ev.bind q1 (Ev.bind e4 (Ev.bind u2 (Ev.bind u1 ?_)))))))))
 refine Qbh (by simp) (Qh rfl (Qbh (by simp) (Qh rfl (Qbh (by simp) (Ev.bind (Qi2 _ (by omega)) ?_)))))
 refine Ev.step (fun _ => laws_FnRanksMakeRowmotion.j4.eq_2 ..) (Qbh (by simp) (Ev.bind e5 (Ev.bind a2 (Ev.bind a1 (Ev.bind b2 (Ev.bind b1 (Qbh (by simp) (Qh rfl (Qbh (by simp) (Qh rfl (Ev.step (fun _ => laws_FnRanksMakeRowmotion.j5.eq_2 ..) ?_)))))))))))
 by_cases h : rvB R5 v5 = true
 ·
  obtain ⟨p, t, rfl, rfl, g, ht, hr⟩ := Qhr h
  have er := Qgz a2 (gyr_val g hr ht)
  have eq := Qgz b2 (Qo5 g hr ht)
  rw [er, eq]
  have hb := Qo5 g hr (Qns g hr ht)
  rw [gyr_back g hr ht] at hb
  exact Qbh (by simp) (Qh rfl (Ev.bind hb (Qh rfl (Qh rfl ej))))
 ·
  have er : a = (0, false) := Qgz a2 (Ev.bind (Qc5 _ _) (Qbh h (Ev.now _)))
  have eq : b = (0, false) := Qgz b2 (Ev.bind (Qc5 _ _) (Qbh h (Ev.now _)))
  rw [er, eq]
  exact Qbh (by simp) (Qbh (by simp) ej)
section
variable {c : List Int} {p : List Nat} (g : Good p) (hr : Qdk p = true) {t : Nat} (ht : IsId p t) (ej : Ev (fun k => laws_FnRanksMakeRowmotion.j3 k c) true)
include g hr ht ej
omit hr ht in
theorem rkL1 : ∀ (d i : Nat), i + d = p.length →
  Ev (fun k => laws_FnRanksMakeRowmotion.l1 k c ((row p t : Nat) : Int) ((row p t : Nat) : Int) true (toI (Qff p)) true true ((full p : Nat) : Int) (toI (M.ht p)) ((toI (M.ht p)).length : Int) (i : Int) (toI p)) true
 | 0, i, h => by
  have gl := g.le
  have e0 : wrap64 ((shl .i64 1 ((toI p).length : Int)) - 1) = ((full p : Nat) : Int) := by rw [toI_len]; exact Qht (by omega)
  refine Ev.step (fun _ => laws_FnRanksMakeRowmotion.l1.eq_2 ..) (Qbh (by rw [toI_len, M.ht_len]; omega) ?_)
  rw [e0]
  exact Qh rfl (Qh rfl (Qh rfl (Qh rfl (Qh rfl ej))))
 | d + 1, i, h => by
  have gl := g.le
  have ih := rkL1 d (i + 1) (by omega)
  have hi : i < p.length := by omega
  have eh : rd (toI (M.ht p)) (i : Int) = ((hh p i : Nat) : Int) := by rw [Qem]; rfl
  have hlt : hh p i < hgh p := Qin p p.length hi
  refine Ev.step (fun _ => laws_FnRanksMakeRowmotion.l1.eq_2 ..) (Qh (by rw [toI_len, M.ht_len]; omega) (Qh (by omega) (Qh (by rw [toI_len, M.ht_len]; omega) ?_)))
  rw [eh, Qg3 p hlt, Qb1 (by omega)]
  refine Qh (by omega) (Qh (by rw [toI_len, Qek]; omega) (Qh ?_ ih))
  rw [Qkw (by omega), Qev, decide_eq_true hi]; simp
theorem rkL0 : ∀ (d i u : Nat), i + d = hgh p → (∀ e, u.testBit e = (decide (e < p.length) && decide (hh p e < i))) →
  Ev (fun k => laws_FnRanksMakeRowmotion.l0 k c (t : Int) ((row p t : Nat) : Int) ((row p t : Nat) : Int) true (toI (Qff p)) true (toI (M.ht p)) true (u : Int) (toI (Qff p)) ((toI (Qff p)).length : Int) (i : Int) (toI p)) true
 | 0, i, u, h, hu => by
  have e : u = full p := Nat.eq_of_testBit_eq fun e => by
   rw [hu, Qnq]
   by_cases he : e < p.length
   ·
    rw [decide_eq_true he, decide_eq_true (by have := Qin p p.length he; unfold hgh at h; omega : hh p e < i)]; rfl
   ·
    rw [decide_eq_false he]; rfl
  subst e
  exact Ev.step (fun _ => laws_FnRanksMakeRowmotion.l0.eq_2 ..) (Qbh (by rw [toI_len, Qek]; omega) (rkL1 g ej p.length 0 (Nat.zero_add _)))
 | d + 1, i, u, h, hu => by
  have gl := g.le
  have gh := Qe5 g
  have S := Qiv g hr
  have hi : i < hgh p := by omega
  have ht' := tgR_id (r := i) ht
  have v1 := Qpk g hr ht hi
  have v2 := Qpk g hr ht' hi
  rw [S.inv t i ht hi] at v2
  have hul : u < 2 ^ p.length := Nat.lt_pow_two_of_testBit _ fun b hb => by
   rw [hu, decide_eq_false (by omega), Bool.false_and]
  have hml : mask p i p.length < 2 ^ p.length := Nat.lt_pow_two_of_testBit _ fun b hb => by
   rw [Qev, decide_eq_false (by omega), Bool.false_and]
  have ih := rkL0 d (i + 1) (u ||| mask p i p.length) (by omega) (fun e => by
   rw [Nat.testBit_or, hu, Qev]
   by_cases he : e < p.length
   ·
    rw [decide_eq_true he, Bool.true_and, Bool.true_and, Bool.true_and]
    by_cases h1 : hh p e < i
    ·
     rw [decide_eq_true h1, decide_eq_true (by omega : hh p e < i + 1)]; rfl
    ·
     rw [decide_eq_false h1, Bool.false_or]
     exact decide_eq_decide.mpr (by omega)
   ·
    rw [decide_eq_false he]; rfl)
  have e0 : u &&& mask p i p.length = 0 := Nat.eq_of_testBit_eq fun e => by
   rw [Nat.testBit_and, hu, Qev, Nat.zero_testBit]
   by_cases h1 : hh p e < i
   ·
    rw [decide_eq_false (by omega : ¬ hh p e = i), Bool.and_false, Bool.and_false]
   ·
    rw [decide_eq_false h1, Bool.and_false, Bool.false_and]
  refine Ev.step (fun _ => laws_FnRanksMakeRowmotion.l0.eq_2 ..) (Qh (by rw [toI_len, Qek]; omega) (Qh (by omega) (Qh (by rw [toI_len, Qek]; omega) (Ev.bind v1 (Ev.bind v2 (Qh rfl (Qh rfl (Qh rfl ?_))))))))
  rw [Qg3 p hi, Qkx (g.len63 hul) (g.len63 hml), Qf9 (g.len63 hul) (g.len63 hml), e0, Qb1 (by omega)]
  exact Qh rfl ih
end
theorem pFnRanksMakeRowmotion : laws_FnRanksMakeRowmotion.Pure := by
 intro l0 l1 h1 h2 hb h3 h4 hb1
 refine Ev.rounds ?_
 obtain ⟨v, hv, hl⟩ := big_eq l0 l1
 cases v with
 | true => exact Qbp hv (Qh rfl (Ev.now _))
 | false =>
  have hl := hl rfl
  have c0 := Qnk hl.1 hb
  have c1 := Qnk hl.2 hb1
  have ej := rkJ3 c1
  obtain ⟨R, w, hR, e⟩ := Qij c0
  obtain ⟨r, r1, r2⟩ := Qhw R w (by omega)
  refine Qbp hv (Qbh (by simp) (Ev.bind e (Ev.bind r2 (Ev.bind r1 (Qbh (by simp) (Ev.step (fun _ => laws_FnRanksMakeRowmotion.j0.eq_2 ..) (Qbh (by simp) ?_)))))))
  by_cases h : rvB R w = true
  ·
   obtain ⟨p, t, rfl, rfl, g, ht, hr⟩ := Qhr h
   have er : r = (((row p t : Nat) : Int), true) := Qgz r2 (Ev.bind (Qc5 _ _) (Qh h (Ev.bind (Ql0 g ht.1) (Ev.now _))))
   rw [er]
   have a8 : Ev (fun k => Qd2.f k (toI p)) (toI (Qff p), true) := Ev.bind (Qfi _) (Qh (Qlz g hr) (Ev.bind (Qfk g) (Ev.now _)))
   have a9 : Ev (fun k => Qd8.f k (toI p)) (toI (M.ht p), true) := Ev.bind (Qhb _) (Qh (Qg0 g) (Ev.bind (Qgo g) (Ev.now _)))
   exact Qh rfl (Ev.bind (rowm_val g ht) (Ev.bind a8 (Ev.bind a9 (rkL0 g hr ht ej (hgh p) 0 0 (Nat.zero_add _) (fun e => by rw [Nat.zero_testBit, decide_eq_false (Nat.not_lt_zero _), Bool.and_false])))))
  ·
   have er : r = (0, false) := Qgz r2 (Ev.bind (Qc5 _ _) (Qbh h (Ev.now _)))
   rw [er]
   exact Qbh (by simp) ej
end Go.Proofs.YtkgngggppcmpfaaGreat.M
namespace Go.Proofs.YtkgngggppcmpfaaGreat.Pure
open Go.Proofs.YtkgngggppcmpfaaGreat.L
theorem FnRanksMakeRowmotion : laws_FnRanksMakeRowmotion.Pure := Go.Proofs.YtkgngggppcmpfaaGreat.M.pFnRanksMakeRowmotion
end Go.Proofs.YtkgngggppcmpfaaGreat.Pure
end
