/- Laws about the given program: the law FnExactGyrationLengths answers true for every input that its row lets in; no condition is added to the given statement. Contracts of the Go functions that it reaches, and the plain proof over lists. -/
import Derived.Below
import Derived.ChangeOld
import Derived.Lib.SmallJoins
import Derived.OpenShut
import Derived.ProofKit
import Derived.ShutString
import Derived.SizedLaws
import Derived.Test.YtpdgiinedbdamaaRows
import Derived.WalkKit
import Derived.Test.YtpdgiinedbdamaaWFnExactGyrationLengths0
import Derived.Test.YtpdgiinedbdamaaKFnExactGyrationLengths0
import Derived.Test.YtpdgiinedbdamaaKFnExactGyrationLengths1
import Derived.Test.YtpdgiinedbdamaaKFnExactGyrationLengths2
import Derived.Test.YtpdgiinedbdamaaKFnExactGyrationLengths3
import Derived.Test.YtpdgiinedbdamaaKFnExactGyrationLengths4
import Derived.Test.YtpdgiinedbdamaaKFnExactGyrationLengths5
import Derived.Test.YtpdgiinedbdamaaKFnExactGyrationLengths6
import Derived.Test.YtpdgiinedbdamaaKFnExactGyrationLengths7
import Derived.Test.YtpdgiinedbdamaaKFnExactGyrationLengths8
import Derived.Test.YtpdgiinedbdamaaKFnExactGyrationLengths9
import Derived.Test.YtpdgiinedbdamaaKFnExactGyrationLengths10
section
namespace Go.Proofs.Ytpdgiinedbdamaa.M
open Go.RowKit Go.Proofs.YtpdgiinedbdamaaW.PrintWords Go.Proofs.YtpdgiinedbdamaaW.PrintLast Go.Proofs.YtpdgiinedbdamaaW.PrintMore Go.Proofs.Ytpdgiinedbdamaa.L
set_option linter.unusedVariables false
def putAt (l : List Int) (n : Int) (i : Nat) : List Int := l.take i ++ [n] ++ l.drop i
theorem putAt_perm (l : List Int) (n : Int) (i : Nat) : (putAt l n i).Perm (n :: l) := by
  unfold putAt
  rw [List.append_assoc]
  refine List.perm_middle.trans ?_
  show (n :: (l.take i ++ l.drop i)).Perm _
  rw [List.take_append_drop]
theorem putAt_sorted {l : List Int} {n : Int} {i : Nat} (hs : l.Pairwise (· ≤ ·)) (h1 : ∀ x ∈ l.take i, x ≤ n) (h2 : ∀ x ∈ l.drop i, n ≤ x) : (putAt l n i).Pairwise (· ≤ ·) := by
  have hs' := hs
  rw [← List.take_append_drop i l, List.pairwise_append] at hs'
  unfold putAt
  rw [List.append_assoc, List.pairwise_append]
  refine ⟨hs'.1, ?_, fun a ha b hb => ?_⟩
  · exact List.pairwise_cons.mpr ⟨fun b hb => h2 b hb, hs'.2.1⟩
  · rcases List.mem_cons.mp hb with e | hb
    · rw [e]; exact h1 a ha
    · exact hs'.2.2 a ha b hb
theorem rvPut_l0 (l : List Int) (n : Int) (hl : l.length ≤ 100000) (hs : l.Pairwise (· ≤ ·)) : ∀ (d i : Nat), i + d = l.length → (∀ x ∈ l.take i, x ≤ n) →
    ∃ r, Ev (fun k => spec_rvPut.l0 k l n (i : Int)) r ∧ r.Perm (n :: l) ∧ r.Pairwise (· ≤ ·)
  | 0, i, h, h1 => by
    refine ⟨putAt l n i, ?_, putAt_perm l n i, putAt_sorted hs h1 (fun x hx => by rw [List.drop_of_length_le (by omega)] at hx; cases hx)⟩
    refine Ev.step (fun _ => spec_rvPut.l0.eq_2 ..) (ev_neg (by omega) (ev_pos (by omega) (ev_pos (by omega) ?_)))
    rw [Int.toNat_natCast]
    refine ev_call (l1Own_eq _ (by rw [List.length_take]; omega)) (ev_pos (by rw [List.length_take]; omega) (ev_call rfl (ev_pos ?_ (Ev.now _))))
    rw [List.length_append, List.length_take, List.length_drop, List.length_singleton]
    omega
  | d + 1, i, h, h1 => by
    have hi : i < l.length := by omega
    by_cases c : l[i] ≤ n
    · obtain ⟨r, r1, r2⟩ := rvPut_l0 l n hl hs d (i + 1) (by omega) (fun x hx => by
        rw [List.take_succ_eq_append_getElem hi] at hx
        rcases List.mem_append.mp hx with hx | hx
        · exact h1 x hx
        · rw [List.mem_singleton] at hx; rw [hx]; exact c)
      refine ⟨r, ?_, r2⟩
      refine Ev.step (fun _ => spec_rvPut.l0.eq_2 ..) (ev_pos (by omega) (ev_pos (by omega) ?_))
      rw [rd_get hi, wrap_succ (by omega)]
      exact ev_pos c r1
    · refine ⟨putAt l n i, ?_, putAt_perm l n i, putAt_sorted hs h1 (fun x hx => ?_)⟩
      · refine Ev.step (fun _ => spec_rvPut.l0.eq_2 ..) (ev_pos (by omega) (ev_pos (by omega) ?_))
        rw [rd_get hi]
        refine ev_neg c (ev_pos (by omega) ?_)
        rw [Int.toNat_natCast]
        refine ev_call (l1Own_eq _ (by rw [List.length_take]; omega)) (ev_pos (by rw [List.length_take]; omega) (ev_call rfl (ev_pos ?_ (Ev.now _))))
        rw [List.length_append, List.length_take, List.length_drop, List.length_singleton]
        omega
      · rw [List.drop_eq_getElem_cons hi] at hx
        have hd : (l.drop i).Pairwise (· ≤ ·) := hs.sublist (List.drop_sublist i l)
        rw [List.drop_eq_getElem_cons hi] at hd
        rcases List.mem_cons.mp hx with e | hx
        · rw [e]; omega
        · have := (List.pairwise_cons.mp hd).1 x hx
          omega
theorem rvPut_ev (l : List Int) (n : Int) (hl : l.length ≤ 100000) (hs : l.Pairwise (· ≤ ·)) : ∃ r, Ev (fun k => spec_rvPut.f k l n) r ∧ r.Perm (n :: l) ∧ r.Pairwise (· ≤ ·) := rvPut_l0 l n hl hs l.length 0 (by omega) (fun x hx => by rw [List.take_zero] at hx; cases hx)
def gyrN (p : List Nat) (s : Nat) : Nat := (gyW (hgh p)).foldl (tgR p) s
def Seen (N : Nat) (seen : List Bool) (met : List Nat) : Prop := seen.length = N ∧ ∀ s, s < N → seen.getD s false = decide (s ∈ met)
theorem Seen.snoc {N : Nat} {seen : List Bool} {met : List Nat} (h : Seen N seen met) (x : Nat) (hx : x < N) : Seen N (seen.set x true) (met ++ [x]) := by
  refine ⟨by rw [List.length_set]; exact h.1, fun s hs => ?_⟩
  by_cases e : s = x
  · subst e
    have : s < seen.length := by rw [h.1]; exact hs
    simp [List.getD_eq_getElem?_getD, this]
  · have h2 := h.2 s hs
    rw [List.getD_eq_getElem?_getD] at h2 ⊢
    rw [List.getElem?_set_ne (fun e' => e e'.symm), h2]
    simp [e]
theorem specGyr_l1 {p : List Nat} (g : Good p) (hr : rankedB p = true) (N : Nat) (hN : N = 2 ^ p.length) (ids : List Int) (q : Nat) (R : List Int × Bool) (out : List Int) : ∀ (k : Nat) (seen : List Bool) (met own : List Nat) (x : Nat), Seen N seen met → InL (idls p) met → x ∈ idls p → (idls p).length < met.length + k → own.length ≤ 3000 →
    (∀ seen', Seen N seen' (orbW (gyrN p) k met own x).1 → Ev (fun k' => if (((orbW (gyrN p) k met own x).2.length : Nat) : Int) > 0 then (spec_rvPut.f k' out (((orbW (gyrN p) k met own x).2.length : Nat) : Int)).bind fun t => spec_GyrationLengths.l0 k' seen' t ids (ids.length : Int) (wrap64 ((q : Int) + 1)) (toI p) else spec_GyrationLengths.l0 k' seen' out ids (ids.length : Int) (wrap64 ((q : Int) + 1)) (toI p)) R) →
    own.length + k ≤ 3000 →
    Ev (fun k' => spec_GyrationLengths.l1 k' seen out (x : Int) ((own.length : Nat) : Int) ids (ids.length : Int) (q : Int) (toI p)) R
  | 0, seen, met, own, x, hS, hI, hx, hk, ho, c, hk2 => absurd (nodup_sub_len hI.1 hI.2) (by omega)
  | k + 1, seen, met, own, x, hS, hI, hx, hk, ho, c, hk2 => by
    have hid := mem_idls.mp hx
    have hxN : x < N := by rw [hN]; exact hid.1
    refine Ev.step (fun _ => spec_GyrationLengths.l1.eq_2 ..) (ev_pos (by omega) (ev_pos (by rw [hS.1]; omega) ?_))
    have e1 : rdOf false seen (x : Int) = decide (x ∈ met) := by unfold rdOf; rw [Int.toNat_natCast]; exact hS.2 x hxN
    rw [e1]
    by_cases cm : x ∈ met
    · refine ev_pos (decide_eq_true cm) ?_
      rw [orbW, if_pos cm] at c
      exact c seen hS
    · refine ev_neg (by rw [decide_eq_true_eq]; exact cm) ?_
      rw [orbW, if_neg cm] at c
      have hg := rvGyrate_ev g hid false
      rw [if_neg (by simp), ← gy_fold g hr hid] at hg
      refine Ev.bind hg ?_
      rw [Int.toNat_natCast, wrap_succ (by omega)]
      have e2 : own.length + 1 = (own ++ [x]).length := by rw [List.length_append, List.length_singleton]
      rw [e2]
      have hgi : gyrN p x ∈ idls p := by
        rw [mem_idls]
        unfold gyrN
        rw [gy_fold g hr hid]
        exact tgS_id (tgS_id hid)
      exact specGyr_l1 g hr N hN ids q R out k _ _ _ _ (hS.snoc x hxN) (hI.snoc hx cm) hgi (by rw [List.length_append, List.length_singleton]; omega) (by rw [List.length_append, List.length_singleton]; omega) c (by rw [List.length_append, List.length_singleton]; omega)
theorem specGyr_l0 {p : List Nat} (g : Good p) (hr : rankedB p = true) (N : Nat) (hN : N = 2 ^ p.length) : ∀ (d q : Nat) (seen : List Bool) (met : List Nat) (out : List Int), q + d = (idls p).length → Seen N seen met → InL (idls p) met → out.Pairwise (· ≤ ·) → out.length ≤ q →
    ∃ r, Ev (fun k => spec_GyrationLengths.l0 k seen out (toI (idls p)) ((toI (idls p)).length : Int) (q : Int) (toI p)) (r, true) ∧ r.Pairwise (· ≤ ·) ∧ r.Perm (out ++ lens (cycF (gyrN p) ((idls p).length + 1) ((idls p).drop q) met))
  | 0, q, seen, met, out, h, hS, hI, hs, ho => by
    refine ⟨out, Ev.step (fun _ => spec_GyrationLengths.l0.eq_2 ..) (ev_neg (by rw [toI_len]; omega) (Ev.now _)), hs, ?_⟩
    rw [List.drop_of_length_le (by omega), cycF]
    unfold lens
    rw [List.map_nil, List.append_nil]
  | d + 1, q, seen, met, out, h, hS, hI, hs, ho => by
    have hq : q < (idls p).length := by omega
    have gl := idls_len g
    have hx := List.getElem_mem hq
    have hlen := nodup_sub_len hI.1 hI.2
    have e0 : rd (toI (idls p)) (q : Int) = (((idls p)[q] : Nat) : Int) := by rw [rd_toI]; simp [List.getD_eq_getElem?_getD, hq]
    rw [List.drop_eq_getElem_cons hq, cycF]
    have hf : ∀ s ∈ idls p, gyrN p s ∈ idls p := fun s hs => by
      have hid := mem_idls.mp hs
      rw [mem_idls]
      unfold gyrN
      rw [gy_fold g hr hid]
      exact tgS_id (tgS_id hid)
    have start : ∀ R, (∀ seen', Seen N seen' (orbW (gyrN p) ((idls p).length + 1) met [] (idls p)[q]).1 → Ev (fun k' => if (((orbW (gyrN p) ((idls p).length + 1) met [] (idls p)[q]).2.length : Nat) : Int) > 0 then (spec_rvPut.f k' out (((orbW (gyrN p) ((idls p).length + 1) met [] (idls p)[q]).2.length : Nat) : Int)).bind fun t => spec_GyrationLengths.l0 k' seen' t (toI (idls p)) ((toI (idls p)).length : Int) (wrap64 ((q : Int) + 1)) (toI p) else spec_GyrationLengths.l0 k' seen' out (toI (idls p)) ((toI (idls p)).length : Int) (wrap64 ((q : Int) + 1)) (toI p)) R) →
        Ev (fun k => spec_GyrationLengths.l0 k seen out (toI (idls p)) ((toI (idls p)).length : Int) (q : Int) (toI p)) R := by
      intro R c
      refine Ev.step (fun _ => spec_GyrationLengths.l0.eq_2 ..) (ev_pos (by rw [toI_len]; omega) (ev_pos (by omega) (ev_pos (by rw [toI_len]; omega) ?_)))
      rw [e0]
      exact specGyr_l1 g hr N hN _ q R out ((idls p).length + 1) seen met [] _ hS hI hx (by omega) (Nat.zero_le _) c (by rw [List.length_nil]; omega)
    by_cases cm : (idls p)[q] ∈ met
    · rw [if_pos cm]
      have e1 : orbW (gyrN p) ((idls p).length + 1) met [] (idls p)[q] = (met, []) := by rw [orbW, if_pos cm]
      have key : ∀ seen', Seen N seen' met → ∃ r, Ev (fun k => spec_GyrationLengths.l0 k seen' out (toI (idls p)) ((toI (idls p)).length : Int) ((q + 1 : Nat) : Int) (toI p)) (r, true) ∧ r.Pairwise (· ≤ ·) ∧ r.Perm (out ++ lens (cycF (gyrN p) ((idls p).length + 1) ((idls p).drop (q + 1)) met)) := fun seen' hS' => specGyr_l0 g hr N hN d (q + 1) seen' met out (by omega) hS' hI hs (by omega)
      obtain ⟨r, r1, r2, r3⟩ := key seen hS
      refine ⟨r, ?_, r2, r3⟩
      refine Ev.step (fun _ => spec_GyrationLengths.l0.eq_2 ..) (ev_pos (by rw [toI_len]; omega) (ev_pos (by omega) (ev_pos (by rw [toI_len]; omega) ?_)))
      rw [e0]
      have hid := mem_idls.mp hx
      have hxN : (idls p)[q] < N := by rw [hN]; exact hid.1
      refine Ev.step (fun _ => spec_GyrationLengths.l1.eq_2 ..) (ev_pos (by omega) (ev_pos (by rw [hS.1]; omega) ?_))
      have e2 : rdOf false seen (((idls p)[q] : Nat) : Int) = decide ((idls p)[q] ∈ met) := by unfold rdOf; rw [Int.toNat_natCast]; exact hS.2 _ hxN
      rw [e2, wrap_succ (by omega)]
      exact ev_pos (decide_eq_true cm) (ev_neg (by omega) r1)
    · rw [if_neg cm]
      obtain ⟨W, hW⟩ : ∃ W, W = orbW (gyrN p) ((idls p).length + 1) met [] (idls p)[q] := ⟨_, rfl⟩
      rw [← hW] at start ⊢
      have hpos : 1 ≤ W.2.length := by
        rw [hW, orbW, if_neg cm]
        have := (orbW_len (f := gyrN p) (idls p).length (met ++ [(idls p)[q]]) ([] ++ [(idls p)[q]]) (gyrN p (idls p)[q])).1
        simpa using this
      have hIW : InL (idls p) W.1 := by rw [hW]; exact orbW_in hf _ _ _ _ hI hx
      obtain ⟨t, t1, t2, t3⟩ := rvPut_ev out ((W.2.length : Nat) : Int) (by omega) hs
      have htl : t.length = out.length + 1 := by rw [t2.length_eq, List.length_cons]
      have any : ∀ seen' seen'', Seen N seen' W.1 → Seen N seen'' W.1 → seen' = seen'' := fun s1 s2 h1 h2 => by
        refine List.ext_getElem (by rw [h1.1, h2.1]) fun i i1 i2 => ?_
        have a := h1.2 i (by rw [← h1.1]; exact i1)
        have b := h2.2 i (by rw [← h1.1]; exact i1)
        rw [List.getD_eq_getElem?_getD, List.getElem?_eq_getElem i1] at a
        rw [List.getD_eq_getElem?_getD, List.getElem?_eq_getElem i2] at b
        exact a.trans b.symm
      obtain ⟨S, hSS⟩ : ∃ S, Seen N S W.1 := ⟨(List.range N).map fun s => decide (s ∈ W.1), by rw [List.length_map, List.length_range], fun s hs => by simp [List.getD_eq_getElem?_getD, hs]⟩
      obtain ⟨r, r1, r2, r3⟩ := specGyr_l0 g hr N hN d (q + 1) S W.1 t (by omega) hSS hIW t3 (by omega)
      refine ⟨r, start _ (fun seen' hS' => ?_), r2, ?_⟩
      · rw [any seen' S hS' hSS, wrap_succ (by omega)]
        exact ev_pos (by omega) (Ev.bind t1 r1)
      · refine r3.trans ?_
        show (t ++ lens _).Perm (out ++ (((W.2.length : Nat) : Int) :: lens _))
        refine (t2.append_right _).trans ?_
        exact List.perm_middle.symm
theorem agree_FnExactGyrationLengths (l : List Int) (hl : l.length ≤ 1048576) : ∃ r : List Int × Bool, r.1.length ≤ 100000 ∧ Ev (fun k => spec_GyrationLengths.f k l) r ∧ Ev (fun k => impl_GyrationLengths.f k l) r := by
  by_cases h : rgB l = true
  · obtain ⟨p, rfl, g, hr⟩ := rgB_of h
    have gh := hgh_le g
    have gl := idls_len g
    have hv := gyW_len (hgh p)
    have gle := g.le
    have gp := pow_le10 g
    obtain ⟨r, r1, r2, r3⟩ := specGyr_l0 g hr (2 ^ p.length) rfl (idls p).length 0 (List.replicate (2 ^ p.length) false) [] [] (by omega) ⟨by rw [List.length_replicate], fun s hs => by simp [List.getD_eq_getElem?_getD, hs]⟩ ⟨List.Pairwise.nil, fun y hy => absurd hy (by simp)⟩ List.Pairwise.nil (Nat.le_refl _)
    rw [List.drop_zero, List.nil_append] at r3
    have hcl := cycF_len (f := gyrN p) (N := (idls p).length + 1) (idls p) []
    have hll : (lens (cycF (gyrN p) ((idls p).length + 1) (idls p) [])).length ≤ 1024 := by unfold lens; rw [List.length_map]; omega
    refine ⟨(r, true), ?_, ?_, ?_⟩
    · show r.length ≤ _
      rw [r3.length_eq]; omega
    · refine Ev.bind (rvGood_ev _) (ev_pos h ?_)
      rw [toI_len, shl_one (by omega), Int.toNat_natCast]
      exact ev_pos (Int.natCast_nonneg _) (ev_pos (Nat.le_trans gp (by decide)) (Ev.bind (poIdeals_ev g) r1))
    · have hM : ∀ s ∈ idls p, Ev (fun k => (fun k x => impl_Poset_toggleRanks.f k (toI p) x (toI (gyW (hgh p)))) k (s : Int)) ((gyrN p s : Nat) : Int) := fun s hs => toggleRanks_ev g _ gyW_lt (by omega) (mem_idls.mp hs).1
      have hf : ∀ s ∈ idls p, gyrN p s ∈ idls p := fun s hs => by
        have hid := mem_idls.mp hs
        rw [mem_idls]
        unfold gyrN
        rw [gy_fold g hr hid]
        exact tgS_id (tgS_id hid)
      have hb : ∀ s ∈ idls p, s ≤ 1000000 := fun s hs => by have := (mem_idls.mp hs).1; omega
      have hcy := implCycles_ev (M := fun k x => impl_Poset_toggleRanks.f k (toI p) x (toI (gyW (hgh p)))) hM hf (by omega) hb
      have hle := lengths_ev ((cycF (gyrN p) ((idls p).length + 1) (idls p) []).map toI) (by rw [List.length_map]; omega)
      rw [lens_toI] at hle
      have hso := sorted_eq (l := lens (cycF (gyrN p) ((idls p).length + 1) (idls p) [])) (by omega)
      rw [sort_eq r2 r3] at hso
      exact Ev.bind (isRanked_ev _) (ev_pos h (Ev.bind (gy_ev g) (Ev.bind (implIdeals_ev g) (ev_pos (by rw [toI_len]; omega) (Ev.bind hcy (Ev.bind hle (ev_call hso (Ev.now _))))))))
  · exact ⟨([], false), by simp, Ev.bind (rvGood_ev _) (ev_neg h (Ev.now _)), Ev.bind (isRanked_ev _) (ev_neg h (Ev.now _))⟩
end Go.Proofs.Ytpdgiinedbdamaa.M
end
section
namespace Go.Proofs.Ytpdgiinedbdamaa.M
open Go.RowKit Go.Proofs.YtpdgiinedbdamaaW.PrintWords Go.Proofs.YtpdgiinedbdamaaW.PrintLast Go.Proofs.YtpdgiinedbdamaaW.PrintMore Go.Proofs.Ytpdgiinedbdamaa.L
theorem szIntS_eq (l : List Int) (h : l.length ≤ maxLen) : laws_szIntS.f l 1048576 = some (if 1048576 < l.length then -1 else 1048576 - (l.length : Int)) := by
  unfold maxLen at h
  unfold laws_szIntS.f
  rw [wrap_id (by omega) (by omega)]
  by_cases h2 : 1048576 < l.length
  · rw [if_pos (by omega), if_pos h2]
  · rw [if_neg (by omega), if_neg h2]
theorem szPoset_eq (l : List Int) (h : l.length ≤ maxLen) : laws_szPoset.f l 1048576 = some (if 1048576 < l.length then -1 else 1048576 - (l.length : Int)) := by
  unfold laws_szPoset.f
  rw [szIntS_eq l h, Option.bind_some]
  split
  · rfl
  · rw [if_neg (by omega)]
theorem toPoset_ev (l : List Int) (hl : l.length ≤ 35184372088832) : Ev (fun k => laws_toPoset.f k l) l := Ev.bind (toIntS_ev l hl) (Ev.now _)
theorem eqPoset_ev (a b : List Int) (hl : a.length ≤ 9223372036854775806) : Ev (fun k => laws_eqPoset.f k a b) (decide (a = b)) := by
  refine Ev.bind (eqIntS_ev a b hl) (ev_ite (fun e => ?_) (fun e => ?_))
  · rw [e]; exact Ev.now _
  · rw [Bool.eq_false_iff.mpr e]; exact Ev.now _
theorem eqPoset_refl (a : List Int) (hl : a.length ≤ 9223372036854775806) : Ev (fun k => laws_eqPoset.f k a a) true := by simpa using eqPoset_ev a a hl
theorem eqIntS_refl (a : List Int) (hl : a.length ≤ 9223372036854775806) : Ev (fun k => laws_eqIntS.f k a a) true := by simpa using eqIntS_ev a a hl
theorem markPoset_ev (l : List Int) (q : Nat) (hl : l.length ≤ 4611686018427387903) (hq : q ≤ 4611686018427387903) : Ev (fun k => laws_markPoset.f k l (q : Int)) (((q + l.length : Nat) : Int), marks q l.length) := Ev.bind (markIntS_ev l q hl hq) (Ev.now _)
end Go.Proofs.Ytpdgiinedbdamaa.M
end
section
namespace Go.Proofs.Ytpdgiinedbdamaa.Pure
open Go.RowKit Go.Proofs.YtpdgiinedbdamaaW.PrintWords Go.Proofs.YtpdgiinedbdamaaW.PrintLast Go.Proofs.YtpdgiinedbdamaaW.PrintMore Go.Proofs.Ytpdgiinedbdamaa.L Go.Proofs.Ytpdgiinedbdamaa.M
theorem FnExactGyrationLengths : laws_FnExactGyrationLengths.Pure2 := by
  intro l0 hm0 hw0
  refine Ev.rounds ?_
  refine ev_call (szPoset_eq l0 hm0) ?_
  by_cases b0 : 1048576 < l0.length
  · rw [if_pos b0]; exact ev_pos (by decide) (Ev.now _)
  rw [if_neg b0]
  refine ev_neg (by omega) ?_
  have T0 := toPoset_ev l0 (by omega)
  have E0 := eqPoset_refl l0 (by omega)
  have M0 := markPoset_ev l0 (1) (by omega) (by omega)
  obtain ⟨r, hr, hs, hi⟩ := agree_FnExactGyrationLengths l0 (by omega)
  have Er := eqIntS_refl r.1 (by omega)
  have Mr := markIntS_ev r.1 1 (by omega) (by omega)
  have Hr := heldIntS_ev 1 r.1.length (by omega) (by omega)
  repeat' first
    | with_reducible exact Ev.now true
    | with_reducible refine Ev.bind hs ?_
    | with_reducible refine Ev.bind hi ?_
    | with_reducible refine Ev.bind T0 ?_
    | with_reducible refine Ev.bind E0 ?_
    | with_reducible refine Ev.bind M0 ?_
    | with_reducible refine Ev.bind Er ?_
    | with_reducible refine Ev.bind Mr ?_
    | with_reducible refine Ev.bind Hr ?_
    | with_reducible refine Ev.step (fun _ => laws_FnExactGyrationLengths.j0.eq_2 ..) ?_
    | with_reducible refine Ev.step (fun _ => laws_FnExactGyrationLengths.j1.eq_2 ..) ?_
    | with_reducible refine Ev.step (fun _ => laws_FnExactGyrationLengths.j2.eq_2 ..) ?_
    | with_reducible refine ev_pos rfl ?_
    | (with_reducible refine ev_neg ?h ?_; case h => first | (simp; done) | omega | (simp only; omega) | (simp; omega))
end Go.Proofs.Ytpdgiinedbdamaa.Pure
end
section
namespace Go.Proofs.Ytpdgiinedbdamaa.R
open Go.ChangeShapes Go.WideShapes Go.ChangeAt Go.RowKit
open Go.ChangeMaps (open_string shut_string)
set_option linter.unusedVariables false
def IsRow (k : IntKind) (w : World) (a : Option Addr) (len cap : Nat) (zs : List Int) : Prop :=
  (a = none ∧ len = 0 ∧ cap = 0 ∧ zs = []) ∨
  ∃ x, a = some x ∧ len ≤ cap ∧ cap ≤ maxLen ∧ zs.length = cap ∧ (∀ i, i < zs.length → w.cell? (x.add i) = some (.int k (zs.getD i 0))) ∧ ∀ n ∈ zs, (Lit.int k n).wf = true
variable {H : Type} {enc : TypeId × Value → H} {P : Program} {W : World} {base : Nat} {ps : List MemPlace}
theorem row_of {t e : TypeId} {k : IntKind} {fuel : Nat} {c : Value} {y : DataW H × List MemPlace} (hu : P.underlying t = some (.slice e)) (he : P.underlying e = some (.int k)) (hc : P.cellsOf e = 1)
    (hf : DataW.trod enc P W 0 (fun _ => true) true fuel t [c] = some y) : ∃ a len cap zs, c = .slice a len cap ∧ IsRow k W a len cap zs := by
  rcases open_ints hu he hc hf with ⟨hcs, _⟩ | ⟨x, l, c', zs, hcs, _, hl, hm, hz, _, hcell, hwz⟩
  · simp only [List.cons.injEq, and_true] at hcs
    subst hcs
    exact ⟨_, _, _, [], rfl, .inl ⟨rfl, rfl, rfl, rfl⟩⟩
  · simp only [List.cons.injEq, and_true] at hcs
    subst hcs
    exact ⟨_, _, _, zs, rfl, .inr ⟨_, rfl, hl, hm, by simpa using hz, hcell, hwz⟩⟩
theorem array1 {α : Type} {cs : Array α} (h : cs.size = 1) : ∃ c0, cs = #[c0] := by
  obtain ⟨l⟩ := cs
  match l, h with
  | [c0], _ => exact ⟨c0, rfl⟩
theorem open_poset {r : Reach} {t e : TypeId} {f : Field} {v : Value} {d : DataW H} (hs : P.underlying t = some (.struct #[f])) (ho : f.offset = 0) (hC : P.cellsOf t = 1) (hfc : P.cellsOf f.type = 1) (hu : P.underlying f.type = some (.slice e)) (he : P.underlying e = some (.int .i64)) (hc : P.cellsOf e = 1)
    (hv : Value.okWide P W r base t v) (h : DataW.Trod enc P W 0 (fun _ => true) true t v d ps) : ∃ a len cap zs, v = .agg #[.slice a len cap] ∧ IsRow .i64 W a len cap zs := by
  obtain ⟨cs, rfl, hsz⟩ := okWide_struct hs hv
  obtain ⟨c0, rfl⟩ := array1 (hsz.trans hC)
  obtain ⟨fuel, hf⟩ := h
  obtain ⟨y0, n, _, _, h0⟩ := trod_struct1 hs hf
  rw [ho, hfc] at h0
  obtain ⟨a, len, cap, zs, rfl, hz⟩ := row_of hu he hc (by simpa [Value.cells] using h0)
  exact ⟨a, len, cap, zs, rfl, hz⟩
theorem open_desk {r : Reach} {t e : TypeId} {f f1 g : Field} {v : Value} {d : DataW H} (hs : P.underlying t = some (.struct #[f, f1])) (ho : f.offset = 0) (ho1 : f1.offset = 1) (hC : P.cellsOf t = 2) (hfc : P.cellsOf f.type = 1) (hfc1 : P.cellsOf f1.type = 1)
    (hs2 : P.underlying f.type = some (.struct #[g])) (hgo : g.offset = 0) (hgc : P.cellsOf g.type = 1) (hu : P.underlying g.type = some (.slice e)) (he : P.underlying e = some (.int .i64)) (hc : P.cellsOf e = 1) (hi : P.underlying f1.type = some (.int .i64))
    (hv : Value.okWide P W r base t v) (h : DataW.Trod enc P W 0 (fun _ => true) true t v d ps) : ∃ a len cap zs x, v = .agg #[.slice a len cap, .int .i64 x] ∧ IsRow .i64 W a len cap zs ∧ (Lit.int .i64 x).wf = true := by
  obtain ⟨cs, rfl, hsz⟩ := okWide_struct hs hv
  obtain ⟨c0, c1, rfl⟩ := Joins.array2 (hsz.trans hC)
  obtain ⟨fuel, hf⟩ := h
  obtain ⟨y0, y1, n, _, _, h0, h1⟩ := trod_struct2 hs hf
  rw [ho, hfc] at h0
  rw [ho1, hfc1] at h1
  obtain ⟨z0, m, _, _, h00⟩ := trod_struct1 hs2 h0
  rw [hgo, hgc] at h00
  obtain ⟨a, len, cap, zs, rfl, hz⟩ := row_of hu he hc (by simpa [Value.cells] using h00)
  obtain ⟨x, e0, e1, wx⟩ := DataW.trod_int hi h1
  simp [Value.cells] at e0
  subst e0
  exact ⟨a, len, cap, zs, x, rfl, hz, wx⟩
end Go.Proofs.Ytpdgiinedbdamaa.R
end
section
namespace Go.Proofs.Ytpdgiinedbdamaa.fnExactGyrationLengths
open Go.ChangeShapes Go.WideShapes Go.ChangeAt Go.RowKit Go.Proofs.YtpdgiinedbdamaaW.PrintWords Go.Proofs.Ytpdgiinedbdamaa.R
open Go.ChangeMaps (open_string shut_string)
set_option linter.unusedVariables false
theorem own : ownKnob Try.prog.godebug = none := by kernel_rfl
theorem laidOut : laidOutB Try.prog = true := by kernel_rfl
set_option maxRecDepth 100000 in
theorem lifted (os : Os) (started : os.Started) (H : Type) (enc : TypeId × Value → H) :
    ReturnsInHanded {} Try.checked os 12 .any (Rows.fnExactGyrationLengthsSpec.pre6 enc Try.prog Try.f12 Rows.fnExactGyrationLengthsRow.domain false) (Rows.fnExactGyrationLengthsSpec.post enc Try.prog Try.f12 false true false false) := by
  refine returnsInHanded_of_change_sized (C := Try.checked) own started (by kernel_rfl) Try.func12
    (ChangeSpec.witness6 (enc := enc) (C := Try.checked) false ⟨#[], #[.agg #[.slice none 0 0]], []⟩ 8 (by kernel_rfl) (by kernel_rfl) (by kernel_rfl) (by kernel_rfl)) ?_
  intro W base args ds gs before hval0 hW hcnd hsz0 _
  have hval : ∀ (j : Nat) t v, Try.f12.params[j]? = some t → args[j]? = some v → Value.okWide Try.prog W .any base t v := hval0
  have hW' := hW
  obtain ⟨p, q, hA0, hV, rfl, hfz, hnd⟩ := hW
  have hA : DataW.TrodAll enc Try.prog W 0 (fun _ => true) true Try.f12.params.toList args.toList ds p := hA0
  rw [Try.params12] at hA hval
  obtain ⟨v0, vs0, d0, ds0, p0, q0, hargs, rfl, rfl, h0, r0⟩ := trodAll_cons hA
  obtain ⟨rfl, rfl, rfl⟩ := trodAll_nil r0
  obtain rfl : args = #[v0] := by cases args; simp_all
  obtain ⟨rfl, rfl⟩ := trodVars_none hV
  have k0 := h0
  have lt0 : ∀ x ∈ p0, x.block < W.heap.size := by obtain ⟨m, hm⟩ := k0; exact DataW.trod_lt m _ _ _ hm
  obtain ⟨A0, len0, cap0, z0, rfl, w0⟩ := open_poset Try.underlying24 rfl (by kernel_rfl) (by kernel_rfl) Try.underlying22 Try.underlying3 (by kernel_rfl) (hval 0 24 v0 rfl rfl) h0
  obtain ⟨l0, rfl, hr0, hm0, hw0, hc0⟩ := ReadsInt.ofRowC w0
  clear hA0 hval0 hsz0
  obtain ⟨k, hp⟩ := Pure.FnExactGyrationLengths l0 hm0 hw0
  refine (L.laws_FnExactGyrationLengths.calls k _ _ l0 true W (Kd.C_of_reads (d := (0 : Int)) (h1 := fun _ => rfl) hr0) hc0 hp).mono fun e W' ⟨he, hd⟩ => ?_
  have bel : Below W.heap.size W W' := hd
  subst he
  exact ⟨_, rfl, _, _, _, [], _, [], hW', trodAll_mk1 (shut_bool Try.underlying4 _), (trodAll_cons_mk (Below.trod laidOut (by kernel_rfl) (of_decide_eq_true (by kernel_rfl)) k0 bel lt0) trodAll_mk0), rfl, bel.frame _, fun h => by cases h⟩
theorem over : Rows.fnExactGyrationLengthsRow.holds Try.pinned (OpenSpec.ofChange Rows.fnExactGyrationLengthsSpec) :=
  OpenClaim.holds_of_wide 12 Try.f12 rfl rfl rfl rfl rfl rfl rfl ⟨rfl, rfl, rfl, rfl, rfl⟩ rfl rfl rfl rfl rfl (by kernel_rfl) Try.func12 (by kernel_rfl)
    (of_decide_eq_true (by kernel_rfl)) (by unfold Func.isWrapper; first | (rw [if_pos (by decide +kernel)]; kernel_rfl) | (rw [if_neg (by decide +kernel)]; exact ⟨rfl, rfl⟩))
    (fun os started H enc _ => lifted os started H enc)
theorem proved : Rows.FnExactGyrationLengthsSaid := over
end Go.Proofs.Ytpdgiinedbdamaa.fnExactGyrationLengths
namespace Go.Proofs.Ytpdgiinedbdamaa
theorem fnExactGyrationLengths_holds : Rows.FnExactGyrationLengthsSaid := fnExactGyrationLengths.proved
end Go.Proofs.Ytpdgiinedbdamaa
end
