/- Laws about the given program: the law FnOrbitsShareIdeals answers true for every input that its row lets in; no condition is added to the given statement. Contracts of the Go functions that it reaches, and the plain proof over lists. -/
import Derived.Test.YtkgngggppcmpfaaGreatWFnOrbitsShareIdeals0
import Derived.Test.YtkgngggppcmpfaaGreatKFnOrbitsShareIdeals0
import Derived.Test.YtkgngggppcmpfaaGreatKFnOrbitsShareIdeals1
import Derived.Test.YtkgngggppcmpfaaGreatKFnOrbitsShareIdeals2
import Derived.Test.YtkgngggppcmpfaaGreatKFnOrbitsShareIdeals3
import Derived.Test.YtkgngggppcmpfaaGreatKFnOrbitsShareIdeals4
import Derived.Test.YtkgngggppcmpfaaGreatKFnOrbitsShareIdeals5
import Derived.Test.YtkgngggppcmpfaaGreatKFnOrbitsShareIdeals6
import Derived.Test.YtkgngggppcmpfaaGreatKSF
import Derived.Test.YtkgngggppcmpfaaGreatKFnOrbitsShareIdeals8
import Derived.Test.YtkgngggppcmpfaaGreatKFnOrbitsShareIdeals9
import Derived.Test.YtkgngggppcmpfaaGreatKFnOrbitsShareIdeals10
section
namespace Go.Proofs.YtkgngggppcmpfaaGreat.M
open Go.RowKit Go.Proofs.YtkgngggppcmpfaaGreatW.PrintWords Go.Proofs.YtkgngggppcmpfaaGreatW.PrintLast Go.Proofs.YtkgngggppcmpfaaGreatW.PrintMore Go.Proofs.YtkgngggppcmpfaaGreat.L
set_option linter.unusedVariables false
theorem os_j8 {c : List Int} (h : Cu c 0 0) : Ev (fun k => laws_FnOrbitsShareIdeals.j8 k c) true := by
 obtain ⟨R, v, hR, e1⟩ := Qlq h
 obtain ⟨r, hr, s1, i1⟩ := Qkl R v
 obtain ⟨X, w, hX, e2⟩ := Qmt h
 obtain ⟨q, s2, i2, hq⟩ := Qkr X w
 obtain ⟨Y, hY, e3⟩ := Qlr h
 obtain ⟨z, hz, s3, i3⟩ := Qf2 Y (by omega)
 have hend : Ev (fun k => if (z.2 == z.2) = true then ((Qbb.f k z.1 z.1).bind fun t => some t) else none) true := Qk (by simp) (Ev.bind (Qfm _ (by omega)) (Ev.now _))
 refine Ev.step (fun _ => laws_FnOrbitsShareIdeals.j8.eq_2 ..) (Ev.bind e1 (Ev.bind i1 (Ev.bind s1 (Ev.bind e2 (Ev.bind i2 (Ev.bind s2 (Ev.bind e3 (Ev.bind i3 (Ev.bind s3 (Qk (by simp) (Ev.bind (Qfm _ (by omega)) (Qk rfl (Qk (by simp) (Qk rfl (Qc6 (fun c => ?_) (fun _ => hend))))))))))))))))
 exact Ev.bind (hq c) (Qk rfl hend)
theorem os_l2 {c : List Int} (J : Ev (fun k => laws_FnOrbitsShareIdeals.j8 k c) true) {p : List Nat} (g : Good p) (n : Nat) (hn : n ≤ 1000) : ∀ (d q acc : Nat), q + d = (idls p).length → acc + ((idls p).drop q).countP (fun s => itr (row p) n s == s) = (idls p).countP (fun s => itr (row p) n s == s) → acc ≤ 10000 + q →
  Ev (fun k => laws_FnOrbitsShareIdeals.l2 k c (n : Int) (((idls p).countP (fun s => itr (row p) n s == s) : Nat) : Int) true (acc : Int) (toI (idls p)) ((toI (idls p)).length : Int) (q : Int) (toI p)) true
 | 0, q, acc, h, ha, hb => by
  rw [List.drop_of_length_le (by omega), List.countP_nil, Nat.add_zero] at ha
  exact Ev.step (fun _ => laws_FnOrbitsShareIdeals.l2.eq_2 ..) (Qbh (by rw [toI_len]; omega) (Qk rfl (Qk (by rw [ha]) J)))
 | d + 1, q, acc, h, ha, hb => by
  have gl := Qek g
  have hq : q < (idls p).length := by omega
  have e0 : rd (toI (idls p)) (q : Int) = (((idls p)[q] : Nat) : Int) := by rw [Qeq]; simp [List.getD_eq_getElem?_getD, hq]
  have hm := Qdb.mp (List.getElem_mem hq)
  rw [List.drop_eq_getElem_cons hq, List.countP_cons] at ha
  generalize (idls p)[q] = s at e0 hm ha
  refine Ev.step (fun _ => laws_FnOrbitsShareIdeals.l2.eq_2 ..) (Qk (by rw [toI_len]; omega) (Qk (by omega) (Qk (by rw [toI_len]; omega) ?_)))
  rw [e0]
  refine Ev.bind (Qkk g hm hn) (Qk rfl (Qc6 (fun c => ?_) (fun c => ?_)))
  ·
   have e1 : (itr (row p) n s == s) = true := by rw [beq_iff_eq]; exact Int.ofNat_inj.mp c
   rw [e1, if_pos rfl] at ha
   rw [Qca (by omega), Qca (by omega)]
   exact os_l2 J g n hn d (q + 1) (acc + 1) (by omega) (by omega) (by omega)
  ·
   have e1 : ¬ (itr (row p) n s == s) = true := by rw [beq_iff_eq]; exact fun e => c (congrArg Int.ofNat e)
   rw [if_neg e1] at ha
   rw [Qca (by omega)]
   exact os_l2 J g n hn d (q + 1) acc (by omega) (by omega) (by omega)
theorem os_j5 {c : List Int} (h : Cu c 0 0) : Ev (fun k => laws_FnOrbitsShareIdeals.j5 k c) true := by
 obtain ⟨R, v, hR, e1⟩ := Qi5 h
 obtain ⟨r, s1, i1, hv⟩ := Qic R v
 have J := os_j8 h
 refine Ev.step (fun _ => laws_FnOrbitsShareIdeals.j5.eq_2 ..) (Ev.bind e1 (Ev.bind i1 (Ev.bind s1 (Qbh (by simp) ?_))))
 rw [show (r.1 != r.1) = false by simp]
 refine Ev.step (fun _ => laws_FnOrbitsShareIdeals.j6.eq_2 ..) (Qbh (by simp) (Qc6 (fun c => ?_) (fun _ => J)))
 obtain ⟨p, n, rfl, g, rfl, hn, er⟩ := hv c
 refine Ev.bind (Ql8 g) ?_
 rw [er]
 exact os_l2 J g n hn (idls p).length 0 0 (Nat.zero_add _) (by rw [List.drop_zero, Nat.zero_add]) (by omega)
section
variable {c : List Int} {p : List Nat} (g : Good p) (J : Ev (fun k => laws_FnOrbitsShareIdeals.j5 k c) true) (O : Nat) (three : Bool)
theorem row_of {i : Nat} (h : i < (orbs p).length) : Qu ((orbs p).map toI) (i : Int) = toI (orbs p)[i] := by
 rw [Qmi (by rw [List.length_map]; exact h), List.getElem_map]
theorem os_l1 {o : List Nat} (ho : o ∈ orbs p) (X : List (List Int)) (i : Nat) (g : Good p) (K : Ev (fun k => laws_FnOrbitsShareIdeals.l0 k c X (lens (orbs p)) (O : Int) three X (X.length : Int) (wrap64 ((i : Int) + 1)) (toI p)) true) : ∀ (d q : Nat), q + d = o.length →
  Ev (fun k => laws_FnOrbitsShareIdeals.l1 k c X (lens (orbs p)) (O : Int) three (toI o) X (X.length : Int) (i : Int) (toI o) ((toI o).length : Int) (q : Int) (toI p)) true
 | 0, q, h => Ev.step (fun _ => laws_FnOrbitsShareIdeals.l1.eq_2 ..) (Qbh (by rw [toI_len]; omega) K)
 | d + 1, q, h => by
  have hl := Qh7 g ho
  have hq : q < o.length := by omega
  have hmod : (q + 1) % o.length < o.length := Nat.mod_lt _ (by omega)
  have get : ∀ j (hj : j < o.length), rd (toI o) (j : Int) = ((o[j] : Nat) : Int) := fun j hj => by rw [Qeq]; simp [List.getD_eq_getElem?_getD, hj]
  have hm := Qdb.mp (Qmg g ho (List.getElem_mem hq))
  obtain ⟨x, n, hx, hn, e, eo⟩ := (Qg8 g o ho).ex
  have nxt : row p o[q] = o[(q + 1) % o.length] := by
   subst eo
   rw [Qh4, Qh4]
   show itr (row p) (q + 1) x = _
   rw [Qgs] at hq ⊢
   by_cases c1 : q + 1 = n
   ·
    rw [c1, Nat.mod_self, e]; rfl
   ·
    rw [Nat.mod_eq_of_lt (by omega)]
  have hd := (Qjl g).1 o ho o[q] (List.getElem_mem hq)
  rw [Qk3 (by omega)] at hd
  have et := Aside0.mk (show Int.tmod (wrap64 ((q : Int) + 1)) ((toI o).length : Int) = (((q + 1) % o.length : Nat) : Int) by
   rw [Qca (by omega), toI_len, Qjs])
  have ez : rd (toI o) 0 = ((o[0] : Nat) : Int) := get 0 (by omega)
  refine Ev.step (fun _ => laws_FnOrbitsShareIdeals.l1.eq_2 ..) (Qk (by rw [toI_len]; omega) (Qk (by omega) (Qk (by rw [toI_len]; omega) ?_)))
  rw [get q hq, et.out, get _ hmod, ez]
  refine Ev.bind (rowm_val g hm) (Qk rfl (Qbh (by rw [toI_len]; omega) (Qk (by omega) (Qk (by rw [toI_len]; omega) (Qk (congrArg Int.ofNat nxt) (Qk (by rw [toI_len]; omega) (Qbh (by omega) ?_)))))))
  rw [Qca (by omega)]
  exact os_l1 ho X i g K d (q + 1) (by omega)
include g J in
theorem os_l0 (hO : three = true → ∀ o ∈ orbs p, O % o.length = 0) : ∀ (d i : Nat), i + d = (orbs p).length →
  Ev (fun k => laws_FnOrbitsShareIdeals.l0 k c ((orbs p).map toI) (lens (orbs p)) (O : Int) three ((orbs p).map toI) ((((orbs p).map toI).length : Nat) : Int) (i : Int) (toI p)) true
 | 0, i, h => by
  have hl := Qeo g
  refine Ev.step (fun _ => laws_FnOrbitsShareIdeals.l0.eq_2 ..) (Qbh (by rw [List.length_map]; omega) (Ev.bind (Qm2 g) (Qk rfl (Ev.bind (Qmx _ (by rw [Qfr]; omega)) (Ev.bind (Qfm _ (by rw [sort_len, Qfr]; omega)) (Qk rfl J))))))
 | d + 1, i, h => by
  have hl := Qeo g
  have hi : i < (orbs p).length := by omega
  have ho := List.getElem_mem hi
  have hol := Qh7 g ho
  have hop := Qjy g ho
  have ih := os_l0 hO d (i + 1) (by omega)
  have K : Ev (fun k => laws_FnOrbitsShareIdeals.l0 k c ((orbs p).map toI) (lens (orbs p)) (O : Int) three ((orbs p).map toI) ((((orbs p).map toI).length : Nat) : Int) (wrap64 ((i : Int) + 1)) (toI p)) true := by rw [Qca (by omega)]; exact ih
  have L1 := os_l1 O three ho ((orbs p).map toI) i g K (orbs p)[i].length 0 (Nat.zero_add _)
  have J3 : Ev (fun k => laws_FnOrbitsShareIdeals.j3 k c ((orbs p).map toI) (lens (orbs p)) (O : Int) three (toI (orbs p)[i]) ((orbs p).map toI) ((((orbs p).map toI).length : Nat) : Int) (i : Int) false (toI p)) true :=
   Ev.step (fun _ => laws_FnOrbitsShareIdeals.j3.eq_2 ..) (Qbh (by simp) L1)
  have elen : rd (lens (orbs p)) (i : Int) = (((orbs p)[i].length : Nat) : Int) := by
   rw [Qg6, Qeq]; simp [List.getD_eq_getElem?_getD, hi]
  have ez : ∀ o : List Nat, 0 < o.length → rd (toI o) 0 = ((o.headD 0 : Nat) : Int) := fun o h0 => by
   rw [Qk3 h0, show (0 : Int) = ((0 : Nat) : Int) from rfl, Qeq]; simp [List.getD_eq_getElem?_getD, h0]
  have J4 : Ev (fun k => if (i : Int) > 0 then (if 0 ≤ (wrap64 ((i : Int) - 1)) then (if (wrap64 ((i : Int) - 1)) < ((((orbs p).map toI).length : Nat) : Int) then (if 0 < ((Qu ((orbs p).map toI) (wrap64 ((i : Int) - 1))).length : Int) then (if 0 < ((toI (orbs p)[i]).length : Int) then (laws_FnOrbitsShareIdeals.j3 k c ((orbs p).map toI) (lens (orbs p)) (O : Int) three (toI (orbs p)[i]) ((orbs p).map toI) ((((orbs p).map toI).length : Nat) : Int) (i : Int) (decide ((rd (Qu ((orbs p).map toI) (wrap64 ((i : Int) - 1))) 0) ≥ (rd (toI (orbs p)[i]) 0))) (toI p)) else (none)) else (none)) else (none)) else (none)) else (laws_FnOrbitsShareIdeals.j3 k c ((orbs p).map toI) (lens (orbs p)) (O : Int) three (toI (orbs p)[i]) ((orbs p).map toI) ((((orbs p).map toI).length : Nat) : Int) (i : Int) false (toI p))) true := by
   refine Qc6 (fun c0 => ?_) (fun _ => J3)
   obtain ⟨j, rfl⟩ : ∃ j, i = j + 1 := ⟨i - 1, by omega⟩
   have hj : j < (orbs p).length := by omega
   have hjp := Qjy g (List.getElem_mem hj)
   have ew := Aside0.mk (show wrap64 (((j + 1 : Nat) : Int) - 1) = (j : Int) by rw [Qdy (by omega) (by omega)]; omega)
   have hlt := List.pairwise_iff_getElem.mp (Qjl g).2 j (j + 1) hj hi (Nat.lt_succ_self j)
   rw [ew.out, row_of hj, ez _ hjp, ez _ hop, show decide ((((orbs p)[j].headD 0 : Nat) : Int) ≥ (((orbs p)[j + 1].headD 0 : Nat) : Int)) = false from decide_eq_false (by omega)]
   exact Qk (by omega) (Qk (by rw [List.length_map]; omega) (Qk (by rw [toI_len]; omega) (Qk (by rw [toI_len]; omega) J3)))
  refine Ev.step (fun _ => laws_FnOrbitsShareIdeals.l0.eq_2 ..) (Qk (by rw [List.length_map]; omega) (Qk (by omega) (Qk (by rw [List.length_map]; omega) (Qk (by rw [Qfr]; omega) ?_))))
  rw [row_of hi, elen]
  refine Qk (by rw [toI_len]) (Qc6 (fun ht => Qbh (by rw [toI_len]; omega) (Qk ?_ J4)) (fun _ => J4))
  rw [toI_len, Qjs, hO ht _ ho]; rfl
end
theorem pFnOrbitsShareIdeals : laws_FnOrbitsShareIdeals.Pure := by
 intro l0 l1 h1 h2 hb h3 h4 hb1
 refine Ev.rounds ?_
 obtain ⟨v, hv, hl⟩ := big_eq l0 l1
 cases v with
 | true => exact Qbk hv (Qk rfl (Ev.now _))
 | false =>
  have hl := hl rfl
  have c0 := Qkx hl.1 hb
  have c1 := Qkx hl.2 hb1
  have J := os_j5 c1
  obtain ⟨R, hR, e1⟩ := Qkm c0
  obtain ⟨a, ha, sa, ia, va, wa⟩ := Qi2 R
  obtain ⟨b, hb', sb, ib, vb, wb⟩ := Qhh R
  obtain ⟨o, so, io, vo⟩ := Qij R
  refine Qbk hv (Qbh (by simp) (Ev.bind e1 (Ev.bind ia (Ev.bind sa (Ev.bind ib (Ev.bind sb (Ev.bind io (Ev.bind so (Qbh (by simp) (Ev.bind (Qmw _ ha) (Qk rfl (Qbh (by simp) (Ev.bind (Qfm _ (by omega)) (Qk rfl (Qbh (by simp) (Qk rfl ?_))))))))))))))))
  by_cases hg : Qel R = true
  ·
   obtain ⟨p, rfl, g⟩ := Qee hg
   have hlen := Qeo g
   rw [va p rfl g, vb p rfl g, vo p rfl g]
   refine Ev.step (fun _ => laws_FnOrbitsShareIdeals.j0.eq_2 ..) (Qbh (by simp) (Qk rfl (Ev.bind (cntO_val g) (Qk rfl (Ev.bind (Qnb g) (Qk rfl ?_))))))
   rw [show (((((orbs p).map toI).length : Nat) : Int) != ((lens (orbs p)).length : Int)) = false by rw [List.length_map, Qfr]; simp]
   refine Ev.step (fun _ => laws_FnOrbitsShareIdeals.j1.eq_2 ..) (Qbh (by simp) ?_)
   refine os_l0 g J _ _ (fun h o ho => ?_) _ 0 (Nat.zero_add _)
   exact Nat.mod_eq_zero_of_dvd ((Qld bigM _ 1 h).2 _ (List.mem_map_of_mem ho))
  ·
   have ea : a.2 = false := by
    cases h : a.2 with
    | false => rfl
    | true => obtain ⟨p, rfl, g⟩ := wa h; exact absurd (Qes g) hg
   have eb : b.2 = false := by rw [wb]; exact Bool.eq_false_iff.mpr hg
   rw [ea, eb]
   exact Ev.step (fun _ => laws_FnOrbitsShareIdeals.j0.eq_2 ..) (Qbh (by simp) (Qbh (by simp) J))
end Go.Proofs.YtkgngggppcmpfaaGreat.M
namespace Go.Proofs.YtkgngggppcmpfaaGreat.Pure
open Go.Proofs.YtkgngggppcmpfaaGreat.L
theorem FnOrbitsShareIdeals : laws_FnOrbitsShareIdeals.Pure := Go.Proofs.YtkgngggppcmpfaaGreat.M.pFnOrbitsShareIdeals
end Go.Proofs.YtkgngggppcmpfaaGreat.Pure
end
