/- Laws about the given program: the law FnSievesOfTableaux answers true for every input that its row lets in; no condition is added to the given statement. Contracts of the Go functions that it reaches, and the plain proof over lists. -/
import Derived.Test.YtkgngggppcmpfaaGreatWFnSievesOfTableaux0
import Derived.Test.YtkgngggppcmpfaaGreatKFnSievesOfTableaux0
import Derived.Test.YtkgngggppcmpfaaGreatKFnSievesOfTableaux1
import Derived.Test.YtkgngggppcmpfaaGreatKFnSievesOfTableaux2
import Derived.Test.YtkgngggppcmpfaaGreatKFnSievesOfTableaux3
import Derived.Test.YtkgngggppcmpfaaGreatKFnSievesOfTableaux4
import Derived.Test.YtkgngggppcmpfaaGreatKFnSievesOfTableaux5
import Derived.Test.YtkgngggppcmpfaaGreatKFnSievesOfTableaux6
import Derived.Test.YtkgngggppcmpfaaGreatKFnSievesOfTableaux7
import Derived.Test.YtkgngggppcmpfaaGreatKFnSievesOfTableaux8
import Derived.Test.YtkgngggppcmpfaaGreatKFnSievesOfTableaux9
section
namespace Go.Proofs.YtkgngggppcmpfaaGreat.M
open Go.RowKit Go.Proofs.YtkgngggppcmpfaaGreatW.PrintWords Go.Proofs.YtkgngggppcmpfaaGreatW.PrintLast Go.Proofs.YtkgngggppcmpfaaGreatW.PrintMore Go.Proofs.YtkgngggppcmpfaaGreat.L
set_option linter.unusedVariables false
theorem Qkr {x y:Int} {a b:List Int} (e:x=y):decide (x::a=y::b)=decide (a=b):=decide_eq_decide.mpr ⟨fun z=>(List.cons.inj z).2,fun z=>by rw [e,z]⟩
theorem Qjw (a b:List Int) (hl:a.length≤1000000) (hab:a.length=b.length): ∀ (d i:Nat),i+d=a.length→Ev (fun k=>Qca.l0 k a b (a.length:Int) (i:Int)) (decide (a.drop i=b.drop i))
 | 0, i, h => by
  refine Ev.step (fun _ => Qca.l0.eq_2 ..) (Qb6 (by omega) ?_)
  rw [List.drop_of_length_le (by omega), List.drop_of_length_le (by omega)]
  exact Ev.now _
 | d + 1, i, h => by
  refine Ev.step (fun _ => Qca.l0.eq_2 ..) (Qbf (by omega) (Qbf (by omega) (Qbf (by omega) (Qbf (by omega) ?_))))
  rw [Qd7 (by omega), Qe8 (by omega : i < a.length), Qe8 (by omega : i < b.length)]
  rw [List.drop_eq_getElem_cons (by omega : i < a.length), List.drop_eq_getElem_cons (by omega : i < b.length)]
  refine Qei (fun e => ?_) (fun e => ?_)
  ·
   rw [Qkr e]
   exact Qjw a b hl hab d (i + 1) (by omega)
  ·
   rw [decide_eq_false (show ¬ (a[i] :: a.drop (i + 1) = b[i] :: b.drop (i + 1)) by rw [List.cons.injEq]; exact fun z => e z.1)]
   exact Ev.now _
theorem same_ev (a b:List Int) (hl:a.length≤1000000):Ev (fun k=>Qca.f k a b) (decide (a=b)):=by
 by_cases h : a.length = b.length
 ·
  exact Qbf (by omega) (Qjw a b hl h a.length 0 (Nat.zero_add _))
 ·
  rw [decide_eq_false (fun e => h (by rw [e]))]
  exact Qb6 (by omega) (Ev.now _)
theorem own_eq' (l:List Int) (h:l.length<17592186044416):Qd9.f l=some l:=by
 unfold Qd9.f; rw [Option.bind_some, if_pos (by simpa using h)]; rfl
def Qew (f:List Int→List Int):Nat→List Int→List Int
 | 0, s => s
 | n + 1, s => Qew f n (f s)
theorem Qg2 (f:List Int→List Int): ∀ (m n:Nat) (s:List Int),Qew f (m+n) s=Qew f n (Qew f m s)
 | 0, n, s => by rw [Nat.zero_add]; rfl
 | m + 1, n, s => by rw [show m + 1 + n = (m + n) + 1 by omega]; exact Qg2 f m n (f s)
theorem Qid (f:List Int→List Int) {n:Nat} {s:List Int} (h:Qew f n s=s): ∀ q,Qew f (n*q) s=s
 | 0 => rfl
 | q + 1 => by rw [Nat.mul_succ, Qg2, Qid f h q, h]
theorem Qki (f:List Int→List Int) {n:Nat} {s:List Int} (hn:1≤n) (h:Qew f n s=s) (hm: ∀ i,i<n→1≤i→Qew f i s≠s) (d:Nat):Qew f d s=s ↔ d % n=0:=by
 have e : Qew f d s = Qew f (d % n) s := by
  have h1 : d = n * (d / n) + d % n := (Nat.div_add_mod d n).symm
  rw [h1, Qg2, Qid f h, ← h1]
 rw [e]
 constructor
 ·
  intro h2
  apply Classical.byContradiction
  intro h3
  exact hm (d % n) (Nat.mod_lt _ (by omega)) (by omega) h2
 ·
  intro h2; rw [h2]; rfl
def pfF (p s:List Int):List Int:=(Qc4.f 1200 p s (wrap64 ((s.length:Int) - 1))).getD []
def perLA (f:List Int→List Int) (s:List Int):Nat→List Int→Nat
 | 0, _ => 0
 | k + 1, t => if t = s then 1 else perLA f s k (f t) + 1
def perL (f:List Int→List Int) (s:List Int):Nat:=perLA f s 12 (f s)
def Qi3 (f:List Int→List Int) (s:List Int):Bool:=decide (1≤perL f s) && Qew f (perL f s) s==s && (List.range (perL f s)).all fun i=>i==0||Qew f i s !=s
def pfB (a b:Int):Bool:=match Qs.f 1200 a b with
 | none => false
 | some p => match Qbm.f 1200 p, liA p, Qbo.f 1200 a b with
  | some true, some (all, true), some ls => (all.all fun s => (Qc4.f 1200 p s (wrap64 ((s.length : Int) - 1))).isSome && all.contains (pfF p s) && Qi3 (pfF p) s && decide (s.length ≤ 10)) && decide (all.length ≤ 1000) && (List.range 61).all fun d => Qcy.f 1200 ls (d : Int) == some ((all.countP fun s => d % perL (pfF p) s == 0 : Nat) : Int)
  | _, _, _ => false
theorem pf1_1:pfB 1 1=true:=by decide+kernel
theorem pf1_2:pfB 1 2=true:=by decide+kernel
theorem pf1_3:pfB 1 3=true:=by decide+kernel
theorem pf1_4:pfB 1 4=true:=by decide+kernel
theorem pf1_5:pfB 1 5=true:=by decide+kernel
theorem pf1_6:pfB 1 6=true:=by decide+kernel
theorem pf1_7:pfB 1 7=true:=by decide+kernel
theorem pf1_8:pfB 1 8=true:=by decide+kernel
theorem pf1_9:pfB 1 9=true:=by decide+kernel
theorem pf1_10:pfB 1 10=true:=by decide+kernel
theorem pf2_1:pfB 2 1=true:=by decide+kernel
theorem pf2_2:pfB 2 2=true:=by decide+kernel
theorem pf2_3:pfB 2 3=true:=by decide+kernel
theorem pf2_4:pfB 2 4=true:=by decide+kernel
theorem pf2_5:pfB 2 5=true:=by decide+kernel
theorem pf3_1:pfB 3 1=true:=by decide+kernel
theorem pf3_2:pfB 3 2=true:=by decide+kernel
theorem pf3_3:pfB 3 3=true:=by decide+kernel
theorem pf4_1:pfB 4 1=true:=by decide+kernel
theorem pf4_2:pfB 4 2=true:=by decide+kernel
theorem pf5_1:pfB 5 1=true:=by decide+kernel
theorem pf5_2:pfB 5 2=true:=by decide+kernel
theorem pf6_1:pfB 6 1=true:=by decide+kernel
theorem pf7_1:pfB 7 1=true:=by decide+kernel
theorem pf8_1:pfB 8 1=true:=by decide+kernel
theorem pf9_1:pfB 9 1=true:=by decide+kernel
theorem pf10_1:pfB 10 1=true:=by decide+kernel
theorem pf_of {a b:Int} (h:Qdt a b=true):pfB a b=true:=by
 unfold Qdt at h
 rw [Bool.and_eq_true, Bool.and_eq_true, Qdw, Qdw, decide_eq_true_eq] at h
 obtain ⟨⟨h1, h2⟩, h3⟩ := h
 obtain rfl | rfl | rfl | rfl | rfl | rfl | rfl | rfl | rfl | rfl : a = 1 ∨ a = 2 ∨ a = 3 ∨ a = 4 ∨ a = 5 ∨ a = 6 ∨ a = 7 ∨ a = 8 ∨ a = 9 ∨ a = 10 := by omega
 ·
  obtain rfl | rfl | rfl | rfl | rfl | rfl | rfl | rfl | rfl | rfl : b = 1 ∨ b = 2 ∨ b = 3 ∨ b = 4 ∨ b = 5 ∨ b = 6 ∨ b = 7 ∨ b = 8 ∨ b = 9 ∨ b = 10 := by omega
  ·
   exact pf1_1
  ·
   exact pf1_2
  ·
   exact pf1_3
  ·
   exact pf1_4
  ·
   exact pf1_5
  ·
   exact pf1_6
  ·
   exact pf1_7
  ·
   exact pf1_8
  ·
   exact pf1_9
  ·
   exact pf1_10
 ·
  obtain rfl | rfl | rfl | rfl | rfl : b = 1 ∨ b = 2 ∨ b = 3 ∨ b = 4 ∨ b = 5 := by omega
  ·
   exact pf2_1
  ·
   exact pf2_2
  ·
   exact pf2_3
  ·
   exact pf2_4
  ·
   exact pf2_5
 ·
  obtain rfl | rfl | rfl : b = 1 ∨ b = 2 ∨ b = 3 := by omega
  ·
   exact pf3_1
  ·
   exact pf3_2
  ·
   exact pf3_3
 ·
  obtain rfl | rfl : b = 1 ∨ b = 2 := by omega
  ·
   exact pf4_1
  ·
   exact pf4_2
 ·
  obtain rfl | rfl : b = 1 ∨ b = 2 := by omega
  ·
   exact pf5_1
  ·
   exact pf5_2
 ·
  obtain rfl : b = 1 := by omega
  exact pf6_1
 ·
  obtain rfl : b = 1 := by omega
  exact pf7_1
 ·
  obtain rfl : b = 1 := by omega
  exact pf8_1
 ·
  obtain rfl : b = 1 := by omega
  exact pf9_1
 ·
  obtain rfl : b = 1 := by omega
  exact pf10_1
theorem pf_mem {p:List Int} {all:List (List Int)} (h: ∀ s,s ∈ all→pfF p s ∈ all): ∀ (n:Nat) (s:List Int),s ∈ all→Qew (pfF p) n s ∈ all
 | 0, s, hs => hs
 | n + 1, s, hs => pf_mem h n _ (h s hs)
theorem Qjs {p:List Int} {all:List (List Int)} (h: ∀ s,s ∈ all→pfF p s ∈ all) (hE: ∀ s,s ∈ all→Ev (fun k=>Qc4.f k p s (wrap64 ((s.length:Int) - 1))) (pfF p s)) (hL: ∀ s,s ∈ all→s.length≤10):
  ∀ (d : Nat) (s : List Int), d ≤ 60 → s ∈ all → Ev (fun k => Q8.l0 k s (d : Int) p) (Qew (pfF p) d s)
 | 0, s, hd, hs => by
  refine Ev.step (fun _ => Q8.l0.eq_2 ..) (Qb6 (by omega) ?_)
  refine Ev.step (fun _ => Q8.l1.eq_2 ..) (Qb6 (by omega) ?_)
  exact Qbw (own_eq' _ (by have := hL s hs; omega)) (Ev.now _)
 | d + 1, s, hd, hs => by
  refine Ev.step (fun _ => Q8.l0.eq_2 ..) (Qbf (by omega) (Ev.bind (hE s hs) ?_))
  rw [show wrap64 (((d + 1 : Nat) : Int) - 1) = (d : Int) by rw [show ((d + 1 : Nat) : Int) - 1 = (d : Int) by omega]; exact Qd6 (by omega) (by omega)]
  exact Qjs h hE hL d _ (by omega) (h s hs)
theorem pf_l0 {p:List Int} {all:List (List Int)} (h: ∀ s,s ∈ all→pfF p s ∈ all) (hE: ∀ s,s ∈ all→Ev (fun k=>Qc4.f k p s (wrap64 ((s.length:Int) - 1))) (pfF p s)) (hL: ∀ s,s ∈ all→s.length≤10) (d:Nat) (hd:d≤60) (hl:all.length≤1000): ∀ (n i cnt:Nat),i+n=all.length→cnt≤i→
  Ev (fun k => Qba.l0 k (d : Int) (cnt : Int) all (all.length : Int) (i : Int) p) (((cnt + (all.drop i).countP (fun s => decide (Qew (pfF p) d s = s)) : Nat) : Int), true)
 | 0, i, cnt, e, hc => by
  refine Ev.step (fun _ => Qba.l0.eq_2 ..) (Qb6 (by omega) ?_)
  rw [List.drop_of_length_le (by omega)]
  exact Ev.now _
 | n + 1, i, cnt, e, hc => by
  have hi : i < all.length := by omega
  have hr : Qo all (i : Int) = all[i] := by simp [Qo, List.getD_eq_getElem?_getD, hi]
  have hm := List.getElem_mem hi
  refine Ev.step (fun _ => Qba.l0.eq_2 ..) (Qbf (by omega) (Qbf (by omega) (Qbf (by omega) ?_)))
  rw [hr, List.drop_eq_getElem_cons hi, List.countP_cons]
  refine Ev.bind (Qjs h hE hL d _ hd hm) (Ev.bind (same_ev _ _ (by have := hL _ (pf_mem h d _ hm); omega)) ?_)
  refine Qei (fun q => ?_) (fun q => ?_)
  ·
   rw [Qd7 (by omega), Qd7 (by omega), if_pos q]
   have := pf_l0 h hE hL d hd hl n (i + 1) (cnt + 1) (by omega) (by omega)
   rw [show cnt + 1 + (all.drop (i + 1)).countP (fun s => decide (Qew (pfF p) d s = s)) = cnt + ((all.drop (i + 1)).countP (fun s => decide (Qew (pfF p) d s = s)) + 1) by omega] at this
   exact this
  ·
   rw [Qd7 (by omega), if_neg q]
   exact pf_l0 h hE hL d hd hl n (i + 1) cnt (by omega) (by omega)
theorem Qh0 (d:Int):Qe4.f d=some (inB d 0 60):=by unfold Qe4.f;rw [Qe6];rfl
theorem Qfr (a b d:Int): ∃ r:Int × Bool,Ev (fun k=>Qbk.f k a b d) r∧Ev (fun k=>Qbi.f k a b d) r:=by
 by_cases hs : Qdt a b = true
 ·
  by_cases hd : inB d 0 60 = true
  ·
   have bd := Qdw.mp hd
   obtain ⟨d, rfl⟩ : ∃ m : Nat, d = (m : Int) := ⟨d.toNat, by omega⟩
   have hg := pf_of hs
   unfold pfB at hg
   split at hg
   ·
    cases hg
   ·
    rename_i p hp
    split at hg
    ·
     rename_i all ls hG hi hL
     rw [Bool.and_eq_true, Bool.and_eq_true, decide_eq_true_eq, List.all_eq_true, List.all_eq_true] at hg
     obtain ⟨⟨h1, h2⟩, h3⟩ := hg
     have h4 : ∀ s, s ∈ all → (∃ v, Qc4.f 1200 p s (wrap64 ((s.length : Int) - 1)) = some v) ∧ pfF p s ∈ all ∧ Qi3 (pfF p) s = true ∧ s.length ≤ 10 := by
      intro s hm
      have := h1 s hm
      rw [Bool.and_eq_true, Bool.and_eq_true, Bool.and_eq_true, List.contains_iff_mem, Option.isSome_iff_exists, decide_eq_true_eq] at this
      exact ⟨this.1.1.1, this.1.1.2, this.1.2, this.2⟩
     have hE : ∀ s, s ∈ all → Ev (fun k => Qc4.f k p s (wrap64 ((s.length : Int) - 1))) (pfF p s) := by
      intro s hm
      obtain ⟨v, hv⟩ := (h4 s hm).1
      have e : pfF p s = v := by unfold pfF; rw [hv]; rfl
      rw [e]
      exact Ev.of (Qc4.mono _ _ _) hv
     have hper : ∀ s, s ∈ all → decide (Qew (pfF p) d s = s) = (d % perL (pfF p) s == 0) := by
      intro s hm
      have h5 := (h4 s hm).2.2.1
      unfold Qi3 at h5
      rw [Bool.and_eq_true, Bool.and_eq_true, decide_eq_true_eq, beq_iff_eq, List.all_eq_true] at h5
      rw [Bool.eq_iff_iff, decide_eq_true_eq, beq_iff_eq]
      refine Qki _ h5.1.1 h5.1.2 (fun i hi h6 => ?_) d
      have := h5.2 i (List.mem_range.mpr hi)
      rw [Bool.or_eq_true, beq_iff_eq, bne_iff_ne] at this
      rcases this with h7 | h7
      ·
       omega
      ·
       exact h7
     have hc := h3 d (List.mem_range.mpr (by omega))
     rw [beq_iff_eq] at hc
     have hl0 := pf_l0 (fun s hm => (h4 s hm).2.1) hE (fun s hm => (h4 s hm).2.2.2) d (by omega) h2 all.length 0 0 (by omega) (Nat.le_refl _)
     rw [List.drop_zero, Nat.zero_add, List.countP_congr (fun s hm => by rw [hper s hm])] at hl0
     refine ⟨(((all.countP fun s => d % perL (pfF p) s == 0 : Nat) : Int), true), Qbw (Qex a b) (Qbf hs (Qbw (Qh0 _) ?_)), Qbw (Qeq a b) (Qbf hs (Qbw (Qe2 _ _ _) ?_))⟩
     ·
      rw [hd]
      have hcr : Ev (fun k => Qba.f k p (d : Int)) (((all.countP fun s => d % perL (pfF p) s == 0 : Nat) : Int), true) := by
       refine Ev.bind (Ev.of (Qbm.mono _) hG) (Qbf rfl (Qbw (Qe6 _ _ _) ?_))
       rw [show inB ((d : Nat) : Int) 0 100 = true from Qdw.mpr ⟨by omega, by omega⟩]
       exact Ev.step (fun _ => Qba.j0.eq_2 ..) (Qb6 (by simp) (Ev.bind (Qi0 hi) (Qbf rfl hl0)))
      exact Ev.step (fun _ => Qbk.j0.eq_2 ..) (Qb6 (by simp) (Ev.bind (Ev.of (Qs.mono _ _) hp) (Ev.bind hcr (Ev.now _))))
     ·
      rw [hd]
      exact Ev.step (fun _ => Qbi.j0.eq_2 ..) (Qb6 (by simp) (Ev.bind (Ev.of (Qbo.mono _ _) hL) (Ev.bind (Ev.of (Qcy.mono _ _) hc) (Ev.now _))))
    ·
     cases hg
  ·
   refine ⟨(0, false), Qbw (Qex a b) (Qbf hs (Qbw (Qh0 _) ?_)), Qbw (Qeq a b) (Qbf hs (Qbw (Qe2 _ _ _) ?_))⟩
   ·
    rw [Bool.eq_false_iff.mpr hd]; exact Ev.step (fun _ => Qbk.j0.eq_2 ..) (Qbf rfl (Ev.now _))
   ·
    rw [Bool.eq_false_iff.mpr hd]; exact Ev.step (fun _ => Qbi.j0.eq_2 ..) (Qbf rfl (Ev.now _))
 ·
  exact ⟨(0, false), Qbw (Qex a b) (Qb6 hs (Ev.step (fun _ => Qbk.j0.eq_2 ..) (Qbf rfl (Ev.now _)))), Qbw (Qeq a b) (Qb6 hs (Ev.step (fun _ => Qbi.j0.eq_2 ..) (Qbf rfl (Ev.now _))))⟩
theorem Qgx: ∀ {l r:List Int},l.Pairwise (· ≤ ·)→r.Pairwise (· ≤ ·)→l.Perm r→l=r
 | [], r, _, _, hp => hp.nil_eq
 | a :: l, [], _, _, hp => absurd hp.symm.nil_eq (by simp)
 | a :: l, b :: r, hl, hr, hp => by
  rw [List.pairwise_cons] at hl hr
  have h1 : a ∈ b :: r := hp.mem_iff.mp List.mem_cons_self
  have h2 : b ∈ a :: l := hp.mem_iff.mpr List.mem_cons_self
  have e : a = b := by
   rcases List.mem_cons.mp h1 with e | h1
   ·
    exact e
   ·
    rcases List.mem_cons.mp h2 with e | h2
    ·
     exact e.symm
    ·
     have := hl.1 b h2
     have := hr.1 a h1
     omega
  subst e
  rw [Qgx hl.2 hr.2 (List.Perm.cons_inv hp)]
theorem Qjl (l:List Int):(Qdj.sort l).Pairwise (· ≤ ·):=by
 unfold Qdj.sort
 have h := List.pairwise_mergeSort (le := fun x y : Int => decide (x ≤ y)) (fun a b c h1 h2 => by rw [decide_eq_true_eq] at h1 h2 ⊢; omega) (fun a b => by rw [Bool.or_eq_true, decide_eq_true_eq, decide_eq_true_eq]; omega) l
 exact h.imp (fun h => by rwa [decide_eq_true_eq] at h)
theorem Qks (l:List Int):(Qdj.sort l).Perm l:=List.mergeSort_perm l _
theorem Qjy {l r:List Int} (hs:r.Pairwise (· ≤ ·)) (hp:r.Perm l):Qdj.sort l=r:=Qgx (Qjl l) hs ((Qks l).trans hp.symm)
theorem Qkt {l:List Int} (h:l.length≤100000):Qdj.f l=some (Qdj.sort l):=if_pos (by omega)
def Qgc (n l:Int):Int:=wrap64 (Int.tdiv n l)
theorem Qh7 (n:Int) (ls:List Int) (hz: ∀ l ∈ ls,l≠0) (hl:ls.length≤1000): ∀ (d i:Nat) (acc:List Int),i+d=ls.length→acc.length=i→
  Ev (fun k => Qbx.l0 k n acc ls (ls.length : Int) (i : Int)) (Qdj.sort (acc ++ (ls.drop i).map (Qgc n)))
 | 0, i, acc, h, ha => by
  refine Ev.step (fun _ => Qbx.l0.eq_2 ..) (Qb6 (by omega) ?_)
  rw [List.drop_of_length_le (by omega), List.map_nil, List.append_nil]
  exact Qbw (Qkt (by omega)) (Ev.now _)
 | d + 1, i, acc, h, ha => by
  have hi : i < ls.length := by omega
  refine Ev.step (fun _ => Qbx.l0.eq_2 ..) (Qbf (by omega) (Qbf (by omega) (Qbf (by omega) ?_)))
  rw [Qe8 hi, List.drop_eq_getElem_cons hi, List.map_cons, Qd7 (by omega)]
  refine Qb6 (hz _ (List.getElem_mem hi)) (Qbf (by omega) ?_)
  have := Qh7 n ls hz hl d (i + 1) (acc ++ [Qgc n ls[i]]) (by omega) (by rw [List.length_append, List.length_singleton]; omega)
  rw [List.append_assoc] at this
  exact this
def upB:List Int→Bool
 | [] => true
 | [_] => true
 | a :: b :: l => decide (a ≤ b) && upB (b :: l)
theorem Qgt: ∀ l:List Int,upB l=true→l.Pairwise (· ≤ ·)
 | [], _ => List.Pairwise.nil
 | [a], _ => List.pairwise_singleton _ a
 | a :: b :: l, h => by
  unfold upB at h
  rw [Bool.and_eq_true, decide_eq_true_eq] at h
  have ih := Qgt (b :: l) h.2
  refine List.pairwise_cons.mpr ⟨fun c hc => ?_, ih⟩
  rcases List.mem_cons.mp hc with e | hc
  ·
   omega
  ·
   have := (List.pairwise_cons.mp ih).1 c hc
   omega
def rankM (p now:List Int):Option (Int × Bool):=(Qbm.f 1200 p).bind fun g=>if g=true then (Qck.f 1200 p now).bind fun u=>if u=true then (if 1≤p.length∧p.length≤10 then Q4.l0 1200 (cL p (2 ^ p.length - 1) (2 ^ p.length - 1+1) 0) 0 0 now (now.length:Int) 0 p else none) else none else none
theorem rankM_ev {p now:List Int} {t:Int × Bool} (h:rankM p now=some t):Ev (fun k=>Q4.f k p now) t:=by
 unfold rankM at h
 obtain ⟨g, hg, h⟩ := Option.bind_eq_some_iff.mp h
 split at h
 ·
  rename_i e; subst e
  obtain ⟨u, hu, h⟩ := Option.bind_eq_some_iff.mp h
  split at h
  ·
   rename_i e; subst e
   split at h
   ·
    rename_i hc
    exact Ev.bind (Ev.of (Qbm.mono _) hg) (Qbf rfl (Ev.bind (Ev.of (Qck.mono _ _) hu) (Ev.step (fun _ => Q4.j0.eq_2 ..) (Qb6 (by simp) (Ev.bind (Qhl p hc.1 hc.2 rfl) (Ev.of (fun k => (Q4.mono_l k).2.1 _ _ _ _ _ _ _) h))))))
   ·
    cases h
  ·
   cases h
 ·
  cases h
def innM (p x:List Int):Nat→List Int→Nat→List Int→Option (Nat × List Int)
 | 0, _, _, _ => none
 | q + 1, now, n, seen => (if n = 0 then some false else Qca.f 1200 now x).bind fun b => if b = true then some (n, seen) else (rankM p now).bind fun t => if seen.length < 17592186044416 ∧ n < 1000000 then (Q8.f 1200 p now 1).bind fun y => innM p x q y (n + 1) (seen ++ [t.1]) else none
theorem Qjq {p x:List Int} : ∀ (f:Nat) (now:List Int) (n:Nat) (seen:List Int) (r:Nat × List Int),innM p x f now n seen=some r→ ∃ K,∀ k q,K≤k→K≤q→Ql.inn k p x q now n seen=some r
 | 0, _, _, _, _, h => by cases h
 | f + 1, now, n, seen, r, h => by
  rw [innM] at h
  obtain ⟨b, hb, h⟩ := Option.bind_eq_some_iff.mp h
  have hB : ∃ K, ∀ k, K ≤ k → (if n = 0 then some false else Qca.f k now x) = some b := by
   by_cases e : n = 0
   ·
    rw [if_pos e] at hb; exact ⟨0, fun k _ => by rw [if_pos e]; exact hb⟩
   ·
    rw [if_neg e] at hb
    obtain ⟨K, hK⟩ := Ev.of (Qca.mono now x) hb
    exact ⟨K, fun k hk => by rw [if_neg e]; exact hK k hk⟩
  obtain ⟨K1, h1⟩ := hB
  by_cases e : b = true
  ·
   rw [if_pos e] at h
   refine ⟨K1 + 1, fun k q hk hq => ?_⟩
   obtain ⟨q, rfl⟩ : ∃ m, q = m + 1 := ⟨q - 1, by omega⟩
   rw [Ql.inn, h1 k (by omega), Option.bind_some, if_pos e]
   exact h
  ·
   rw [if_neg e] at h
   obtain ⟨t, ht, h⟩ := Option.bind_eq_some_iff.mp h
   obtain ⟨K2, h2⟩ := rankM_ev ht
   split at h
   ·
    rename_i hc
    obtain ⟨y, hy, h⟩ := Option.bind_eq_some_iff.mp h
    obtain ⟨K3, h3⟩ := Ev.of (Q8.mono p now 1) hy
    obtain ⟨K4, h4⟩ := Qjq f y (n + 1) (seen ++ [t.1]) r h
    refine ⟨K1 + K2 + K3 + K4 + 1, fun k q hk hq => ?_⟩
    obtain ⟨q, rfl⟩ : ∃ m, q = m + 1 := ⟨q - 1, by omega⟩
    have h2' : Q4.f k p now = some t := h2 k (by omega)
    have h3' : Q8.f k p now 1 = some y := h3 k (by omega)
    rw [Ql.inn, h1 k (by omega), Option.bind_some, if_neg e, h2', Option.bind_some, if_pos hc, h3', Option.bind_some]
    exact h4 k q (by omega) (by omega)
   ·
    cases h
def goM (p:List Int) (ab:Int):List (List Int)→Nat→List Int→List Int→Option (List Int)
 | [], _, out, _ => some out
 | x :: ws, i, out, seen => (Qct.f 1200 seen (i : Int)).bind fun h => if h = true then goM p ab ws (i + 1) out seen else (innM p x 100 x 0 seen).bind fun t => if 1 ≤ t.1 then (Qcz.f 1200 out (ab / (t.1 : Int))).bind fun o => goM p ab ws (i + 1) o t.2 else none
theorem Qiy {p:List Int} {ab:Int} : ∀ (ws:List (List Int)) (i:Nat) (out seen o:List Int),goM p ab ws i out seen=some o→Ev (fun k=>Ql.go k p ab ws i out seen) o
 | [], i, out, seen, o, h => by
  rw [goM] at h
  exact ⟨0, fun k _ => by show Ql.go k p ab [] i out seen = some o; rw [Ql.go]; exact h⟩
 | x :: ws, i, out, seen, o, h => by
  rw [goM] at h
  obtain ⟨b, hb, h⟩ := Option.bind_eq_some_iff.mp h
  obtain ⟨K1, h1⟩ := Ev.of (Qct.mono seen (i : Int)) hb
  by_cases e : b = true
  ·
   rw [if_pos e] at h
   obtain ⟨K2, h2⟩ := Qiy ws (i + 1) out seen o h
   refine ⟨K1 + K2, fun k hk => ?_⟩
   have h1' : Qct.f k seen (i : Int) = some b := h1 k (by omega)
   show Ql.go k p ab (x :: ws) i out seen = some o
   rw [Ql.go, h1', Option.bind_some, if_pos e]
   exact h2 k (by omega)
  ·
   rw [if_neg e] at h
   obtain ⟨t, ht, h⟩ := Option.bind_eq_some_iff.mp h
   obtain ⟨K2, h2⟩ := Qjq 100 x 0 seen t ht
   split at h
   ·
    rename_i hc
    obtain ⟨o1, ho, h⟩ := Option.bind_eq_some_iff.mp h
    obtain ⟨K3, h3⟩ := Ev.of (Qcz.mono out (ab / (t.1 : Int))) ho
    obtain ⟨K4, h4⟩ := Qiy ws (i + 1) o1 t.2 o h
    refine ⟨K1 + K2 + K3 + K4, fun k hk => ?_⟩
    have h1' : Qct.f k seen (i : Int) = some b := h1 k (by omega)
    have h3' : Qcz.f k out (ab / (t.1 : Int)) = some o1 := h3 k (by omega)
    show Ql.go k p ab (x :: ws) i out seen = some o
    rw [Ql.go, h1', Option.bind_some, if_neg e, h2 k k (by omega) (by omega), Option.bind_some, if_pos hc, h3', Option.bind_some]
    exact h4 k (by omega)
   ·
    cases h
def psB (a b:Int):Bool:=match Qs.f 1200 a b with
 | none => false
 | some p => match liA p, Qbo.f 1200 a b with
  | some (all, bA), some ls => (match goM p (a * b) all 0 [] [] with
   | none => false
   | some o => (ls.all fun l => l != 0) && decide (ls.length ≤ 1000) && upB o && o.isPerm (ls.map (Qgc (wrap64 (a * b)))) && decide (all.length ≤ 1000000))
  | _, _ => false
theorem ps1_1:psB 1 1=true:=by decide+kernel
theorem ps1_2:psB 1 2=true:=by decide+kernel
theorem ps1_3:psB 1 3=true:=by decide+kernel
theorem ps1_4:psB 1 4=true:=by decide+kernel
theorem ps1_5:psB 1 5=true:=by decide+kernel
theorem ps1_6:psB 1 6=true:=by decide+kernel
theorem ps1_7:psB 1 7=true:=by decide+kernel
theorem ps1_8:psB 1 8=true:=by decide+kernel
theorem ps1_9:psB 1 9=true:=by decide+kernel
theorem ps1_10:psB 1 10=true:=by decide+kernel
theorem ps2_1:psB 2 1=true:=by decide+kernel
theorem ps2_2:psB 2 2=true:=by decide+kernel
theorem ps2_3:psB 2 3=true:=by decide+kernel
theorem ps2_4:psB 2 4=true:=by decide+kernel
theorem ps2_5:psB 2 5=true:=by decide+kernel
theorem ps3_1:psB 3 1=true:=by decide+kernel
theorem ps3_2:psB 3 2=true:=by decide+kernel
theorem ps3_3:psB 3 3=true:=by decide+kernel
theorem ps4_1:psB 4 1=true:=by decide+kernel
theorem ps4_2:psB 4 2=true:=by decide+kernel
theorem ps5_1:psB 5 1=true:=by decide+kernel
theorem ps5_2:psB 5 2=true:=by decide+kernel
theorem ps6_1:psB 6 1=true:=by decide+kernel
theorem ps7_1:psB 7 1=true:=by decide+kernel
theorem ps8_1:psB 8 1=true:=by decide+kernel
theorem ps9_1:psB 9 1=true:=by decide+kernel
theorem ps10_1:psB 10 1=true:=by decide+kernel
theorem ps_of {a b:Int} (h:Qdt a b=true):psB a b=true:=by
 unfold Qdt at h
 rw [Bool.and_eq_true, Bool.and_eq_true, Qdw, Qdw, decide_eq_true_eq] at h
 obtain ⟨⟨h1, h2⟩, h3⟩ := h
 obtain rfl | rfl | rfl | rfl | rfl | rfl | rfl | rfl | rfl | rfl : a = 1 ∨ a = 2 ∨ a = 3 ∨ a = 4 ∨ a = 5 ∨ a = 6 ∨ a = 7 ∨ a = 8 ∨ a = 9 ∨ a = 10 := by omega
 ·
  obtain rfl | rfl | rfl | rfl | rfl | rfl | rfl | rfl | rfl | rfl : b = 1 ∨ b = 2 ∨ b = 3 ∨ b = 4 ∨ b = 5 ∨ b = 6 ∨ b = 7 ∨ b = 8 ∨ b = 9 ∨ b = 10 := by omega
  ·
   exact ps1_1
  ·
   exact ps1_2
  ·
   exact ps1_3
  ·
   exact ps1_4
  ·
   exact ps1_5
  ·
   exact ps1_6
  ·
   exact ps1_7
  ·
   exact ps1_8
  ·
   exact ps1_9
  ·
   exact ps1_10
 ·
  obtain rfl | rfl | rfl | rfl | rfl : b = 1 ∨ b = 2 ∨ b = 3 ∨ b = 4 ∨ b = 5 := by omega
  ·
   exact ps2_1
  ·
   exact ps2_2
  ·
   exact ps2_3
  ·
   exact ps2_4
  ·
   exact ps2_5
 ·
  obtain rfl | rfl | rfl : b = 1 ∨ b = 2 ∨ b = 3 := by omega
  ·
   exact ps3_1
  ·
   exact ps3_2
  ·
   exact ps3_3
 ·
  obtain rfl | rfl : b = 1 ∨ b = 2 := by omega
  ·
   exact ps4_1
  ·
   exact ps4_2
 ·
  obtain rfl | rfl : b = 1 ∨ b = 2 := by omega
  ·
   exact ps5_1
  ·
   exact ps5_2
 ·
  obtain rfl : b = 1 := by omega
  exact ps6_1
 ·
  obtain rfl : b = 1 := by omega
  exact ps7_1
 ·
  obtain rfl : b = 1 := by omega
  exact ps8_1
 ·
  obtain rfl : b = 1 := by omega
  exact ps9_1
 ·
  obtain rfl : b = 1 := by omega
  exact ps10_1
theorem Qfe (a b:Int): ∃ r:List Int × Bool,r.1.length≤1000∧Ev (fun k=>Ql.f k a b) r∧Ev (fun k=>Qcc.f k a b) r:=by
 by_cases hs : Qdt a b = true
 ·
  have hg := ps_of hs
  have hab := hs
  unfold Qdt at hab
  rw [Bool.and_eq_true, Bool.and_eq_true, Qdw, Qdw] at hab
  unfold psB at hg
  split at hg
  ·
   cases hg
  ·
   rename_i p hp
   split at hg
   ·
    rename_i all bA ls hA h2
    split at hg
    ·
     cases hg
    ·
     rename_i o ho
     rw [Bool.and_eq_true, Bool.and_eq_true, Bool.and_eq_true, Bool.and_eq_true, decide_eq_true_eq, decide_eq_true_eq, List.all_eq_true, List.isPerm_iff] at hg
     obtain ⟨⟨⟨⟨g2, g3⟩, g4⟩, g5⟩, g6⟩ := hg
     have e : Qdj.sort (ls.map (Qgc (wrap64 (a * b)))) = o := Qjy (Qgt _ g4) g5
     refine ⟨(o, true), ?_, Qbw (Qex a b) (Qbf hs (Qbf (by omega) (Ev.bind (Ev.of (Qs.mono _ _) hp) (Ev.bind (Qi0 hA) (Qbf g6 (Ev.bind (Qiy _ _ _ _ _ ho) (Ev.now _))))))), Qbw (Qeq a b) (Qbf hs (Ev.bind (Ev.of (Qbo.mono a b) h2) ?_))⟩
     ·
      rw [g5.length_eq, List.length_map]; exact g3
     ·
      have hl0 := Qh7 (wrap64 (a * b)) ls (fun l hl => by have := g2 l hl; rwa [bne_iff_ne] at this) g3 ls.length 0 [] (by omega) rfl
      rw [List.drop_zero, List.nil_append, e] at hl0
      exact Ev.bind hl0 (Ev.now _)
   ·
    cases hg
 ·
  exact ⟨([], false), Nat.zero_le _, Qbw (Qex a b) (Qb6 hs (Ev.now _)), Qbw (Qeq a b) (Qb6 hs (Ev.now _))⟩
def insI (x:Int):List Int→List Int
 | [] => [x]
 | y :: l => if x ≤ y then x :: y :: l else y :: insI x l
def isortI:List Int→List Int
 | [] => []
 | x :: l => insI x (isortI l)
def stO (ls:List Int) (n:Int):List Int:=isortI (ls.map (Qgc n))
def Qjd (d:Int) (ls hk:List Int):Bool:=match Q7.f 1200 hk d with
 | some rr => rr.2 && (List.range 61).all fun k : Nat => match Qi.f 1200 rr.1 (k : Int), Qcy.f 1200 ls (k : Int) with
  | some v, some w => v.2 && v.1 == w
  | _, _ => false
 | none => false
def Qjc (a b:Int) (hk o:List Int):Bool:=match Q7.f 1200 hk (wrap64 (a*b)) with
 | some rr => rr.2 && (Qbh.f rr.1 o == some (true, true)) && match Qm.f 1200 rr.1 with
  | some cc => cc.2 && (laws_FnSievesOfTableaux.l1 1200 a b o cc.1 0 1 == some true)
  | none => false
 | none => false
def svB (a b:Int):Bool:=match Qbo.f 1200 a b,Qcw.f 1200 a b with
 | some ls, some hk => (ls.all fun l => l != 0) && decide (ls.length ≤ 1000) && upB (stO ls (wrap64 (a * b))) && (stO ls (wrap64 (a * b))).isPerm (ls.map (Qgc (wrap64 (a * b)))) && hk.2 && Qjd (wrap64 (a * b)) ls hk.1 && Qjc a b hk.1 (stO ls (wrap64 (a * b)))
 | _, _ => false
theorem sv1_1:svB 1 1=true:=by decide+kernel
theorem sv1_2:svB 1 2=true:=by decide+kernel
theorem sv1_3:svB 1 3=true:=by decide+kernel
theorem sv1_4:svB 1 4=true:=by decide+kernel
theorem sv1_5:svB 1 5=true:=by decide+kernel
theorem sv1_6:svB 1 6=true:=by decide+kernel
theorem sv1_7:svB 1 7=true:=by decide+kernel
theorem sv1_8:svB 1 8=true:=by decide+kernel
theorem sv1_9:svB 1 9=true:=by decide+kernel
theorem sv1_10:svB 1 10=true:=by decide+kernel
theorem sv2_1:svB 2 1=true:=by decide+kernel
theorem sv2_2:svB 2 2=true:=by decide+kernel
theorem sv2_3:svB 2 3=true:=by decide+kernel
theorem sv2_4:svB 2 4=true:=by decide+kernel
theorem sv2_5:svB 2 5=true:=by decide+kernel
theorem sv3_1:svB 3 1=true:=by decide+kernel
theorem sv3_2:svB 3 2=true:=by decide+kernel
theorem sv3_3:svB 3 3=true:=by decide+kernel
theorem sv4_1:svB 4 1=true:=by decide+kernel
theorem sv4_2:svB 4 2=true:=by decide+kernel
theorem sv5_1:svB 5 1=true:=by decide+kernel
theorem sv5_2:svB 5 2=true:=by decide+kernel
theorem sv6_1:svB 6 1=true:=by decide+kernel
theorem sv7_1:svB 7 1=true:=by decide+kernel
theorem sv8_1:svB 8 1=true:=by decide+kernel
theorem sv9_1:svB 9 1=true:=by decide+kernel
theorem sv10_1:svB 10 1=true:=by decide+kernel
theorem sv_of {a b:Int} (h:Qdt a b=true):svB a b=true:=by
 unfold Qdt at h
 rw [Bool.and_eq_true, Bool.and_eq_true, Qdw, Qdw, decide_eq_true_eq] at h
 obtain ⟨⟨h1, h2⟩, h3⟩ := h
 obtain rfl | rfl | rfl | rfl | rfl | rfl | rfl | rfl | rfl | rfl : a = 1 ∨ a = 2 ∨ a = 3 ∨ a = 4 ∨ a = 5 ∨ a = 6 ∨ a = 7 ∨ a = 8 ∨ a = 9 ∨ a = 10 := by omega
 ·
  obtain rfl | rfl | rfl | rfl | rfl | rfl | rfl | rfl | rfl | rfl : b = 1 ∨ b = 2 ∨ b = 3 ∨ b = 4 ∨ b = 5 ∨ b = 6 ∨ b = 7 ∨ b = 8 ∨ b = 9 ∨ b = 10 := by omega
  ·
   exact sv1_1
  ·
   exact sv1_2
  ·
   exact sv1_3
  ·
   exact sv1_4
  ·
   exact sv1_5
  ·
   exact sv1_6
  ·
   exact sv1_7
  ·
   exact sv1_8
  ·
   exact sv1_9
  ·
   exact sv1_10
 ·
  obtain rfl | rfl | rfl | rfl | rfl : b = 1 ∨ b = 2 ∨ b = 3 ∨ b = 4 ∨ b = 5 := by omega
  ·
   exact sv2_1
  ·
   exact sv2_2
  ·
   exact sv2_3
  ·
   exact sv2_4
  ·
   exact sv2_5
 ·
  obtain rfl | rfl | rfl : b = 1 ∨ b = 2 ∨ b = 3 := by omega
  ·
   exact sv3_1
  ·
   exact sv3_2
  ·
   exact sv3_3
 ·
  obtain rfl | rfl : b = 1 ∨ b = 2 := by omega
  ·
   exact sv4_1
  ·
   exact sv4_2
 ·
  obtain rfl | rfl : b = 1 ∨ b = 2 := by omega
  ·
   exact sv5_1
  ·
   exact sv5_2
 ·
  obtain rfl : b = 1 := by omega
  exact sv6_1
 ·
  obtain rfl : b = 1 := by omega
  exact sv7_1
 ·
  obtain rfl : b = 1 := by omega
  exact sv8_1
 ·
  obtain rfl : b = 1 := by omega
  exact sv9_1
 ·
  obtain rfl : b = 1 := by omega
  exact sv10_1
structure Cu (c : List Int) (t : Int) (m : Nat) : Prop where
 len : c.length ≤ 1048576
 byt : ∀ x ∈ c, 0 ≤ x ∧ x ≤ 255
 lo : 0 ≤ t
 hi : t ≤ (m : Int)
theorem Cu.mono {c:List Int} {t:Int} {m n:Nat} (h:Cu c t m) (hm:m≤n):Cu c t n:=⟨h.len,h.byt,h.lo,by have:=h.hi;omega⟩
theorem Qiv {c:List Int} (hl:c.length≤1048576) (hb: ∀ x ∈ c,(Lit.int .u8 x).wf=true):Cu c 0 0:=
 ⟨hl, fun x hx => by
  have h := hb x hx
  simp only [Lit.wf, Bool.and_eq_true, decide_eq_true_eq] at h
  have e0 : IntKind.u8.min = 0 := by decide
  have e1 : IntKind.u8.max = 255 := by decide
  omega, Int.le_refl _, Int.le_refl _⟩
theorem and255 (a:Int): ∃ v:Nat,v≤255∧Go.bits .and .u64 a 255=(v:Int):=by
 refine ⟨(BitVec.ofInt IntKind.u64.bits a).toNat &&& (BitVec.ofInt IntKind.u64.bits 255).toNat, ?_, ?_⟩
 ·
  exact Nat.le_trans Nat.and_le_right (by decide)
 ·
  simp only [Go.bits, BitVec.toNat_and]
  have h : (BitVec.ofInt IntKind.u64.bits a).toNat &&& (BitVec.ofInt IntKind.u64.bits 255).toNat ≤ 255 := Nat.le_trans Nat.and_le_right (by decide)
  rw [show ∀ n : Int, IntKind.u64.wrap n = n % 18446744073709551616 from fun n => by simp [IntKind.wrap, IntKind.bits, IntKind.signed]]
  omega
theorem Qjr {c:List Int} {t s:Int} {m:Nat} (h:Cu c t m) (hm:m≤1000000): ∃ v t' s',Qdz.f c t s=some (v,t',s')∧0≤v∧v≤255∧Cu c t' (m+1):=by
 have hl := h.len
 have h0 := h.lo
 have h1 := h.hi
 have hc : Cu c (wrap64 (t + 1)) (m + 1) := ⟨h.len, h.byt, by rw [Qd6 (by omega) (by omega)]; omega, by rw [Qd6 (by omega) (by omega)]; omega⟩
 have wb : ∀ a : Int, 0 ≤ wrap64 (Go.bits .and .u64 a 255) ∧ wrap64 (Go.bits .and .u64 a 255) ≤ 255 := fun a => by
  obtain ⟨v, hv, e⟩ := and255 a
  rw [e, Qd6 (by omega) (by omega)]; omega
 unfold Qdz.f
 by_cases c1 : t < (c.length : Int)
 ·
  obtain ⟨i, rfl⟩ : ∃ i : Nat, t = (i : Int) := ⟨t.toNat, by omega⟩
  have hb := h.byt _ (List.getElem_mem (show i < c.length by omega))
  rw [if_pos c1, if_pos h0, Qe8 (by omega)]
  by_cases c2 : wrap64 ((i : Int) + 1) ≤ (c.length : Int)
  ·
   rw [if_pos c2]
   exact ⟨_, _, _, rfl, by rw [Qd6 (by omega) (by omega)]; omega, by rw [Qd6 (by omega) (by omega)]; omega, hc⟩
  ·
   rw [if_neg c2]
   exact ⟨_, _, _, rfl, (wb _).1, (wb _).2, hc⟩
 ·
  rw [if_neg c1]
  by_cases c2 : wrap64 (t + 1) ≤ (c.length : Int)
  ·
   rw [if_pos c2]
   exact ⟨_, _, _, rfl, by omega, by omega, hc⟩
  ·
   rw [if_neg c2]
   exact ⟨_, _, _, rfl, (wb _).1, (wb _).2, hc⟩
theorem Qjz {a n:Int} (ha:0≤a) (hn:0<n):0≤Int.tmod a n∧Int.tmod a n<n:=by
 rw [Int.tmod_eq_emod_of_nonneg ha]
 exact ⟨Int.emod_nonneg _ (by omega), Int.emod_lt_of_pos _ hn⟩
theorem Qez {c:List Int} {t s:Int} {m:Nat} (n:Int) (h:Cu c t m) (hm:m≤900000): ∃ v t' s',Qn.f c t s n=some (v,t',s')∧0≤v∧(v<n∨v=0)∧Cu c t' (m+2):=by
 unfold Qn.f
 by_cases c1 : n ≤ 1
 ·
  rw [if_pos c1]
  exact ⟨_, _, _, rfl, Int.le_refl _, .inr rfl, h.mono (by omega)⟩
 ·
  rw [if_neg c1]
  obtain ⟨v, t', s', e, v0, v1, h'⟩ := Qjr (s := s) h (by omega)
  rw [e, Option.bind_some]
  by_cases c2 : n > 200
  ·
   obtain ⟨v2, t2, s2, e2, a0, a1, h2⟩ := Qjr (s := s') h' (by omega)
   dsimp only
   rw [if_pos c2, e2, Option.bind_some, if_neg (by omega)]
   dsimp only
   have w : wrap64 (wrap64 (v * 256) + v2) = v * 256 + v2 := by rw [Qd6 (x := v * 256) (by omega) (by omega), Qd6 (by omega) (by omega)]
   have b := Qjz (a := v * 256 + v2) (n := n) (by omega) (by omega)
   refine ⟨_, _, _, rfl, ?_, .inl ?_, h2⟩
   ·
    show 0 ≤ Int.tmod (wrap64 (wrap64 (v * 256) + v2)) n
    rw [w]; exact b.1
   ·
    show Int.tmod (wrap64 (wrap64 (v * 256) + v2)) n < n
    rw [w]; exact b.2
  ·
   dsimp only
   rw [if_neg c2, if_neg (by omega)]
   have b := Qjz (a := v) (n := n) v0 (by omega)
   exact ⟨_, _, _, rfl, b.1, .inl b.2, h'.mono (by omega)⟩
theorem Qg6 {c:List Int} {t s:Int} {m:Nat} (n:Int) (h:Cu c t m) (hm:m≤900000): ∃ v t' s',Qbq.f c t s n=some (v,t',s')∧Cu c t' (m+2):=by
 obtain ⟨v, t', s', e, _, _, h'⟩ := Qez (s := s) n h hm
 unfold Qbq.f
 rw [e, Option.bind_some]
 exact ⟨_, _, _, rfl, h'⟩
theorem Qis {c:List Int} {t s:Int} {m:Nat} (l:List Int) (hl:0<l.length) (h:Cu c t m) (hm:m≤900000): ∃ v t' s',Qdu.f c t s l=some (v,t',s')∧v ∈ l∧Cu c t' (m+2):=by
 obtain ⟨v, t', s', e, v0, v1, h'⟩ := Qez (s := s) (l.length : Int) h hm
 obtain ⟨i, rfl⟩ : ∃ i : Nat, v = (i : Int) := ⟨v.toNat, by omega⟩
 unfold Qdu.f
 rw [e, Option.bind_some]
 have hi : i < l.length := by omega
 dsimp only
 rw [if_pos (by omega), if_pos (by omega), Qe8 hi]
 exact ⟨_, _, _, rfl, List.getElem_mem hi, h'⟩
theorem one_plus (n:Nat) (h:n≤1000):wrap64 (1+(n:Int))=((1+n:Nat):Int):=by rw [Qd6 (by omega) (by omega)];omega
theorem Qgq {c:List Int} {t s:Int} {m:Nat} (h:Cu c t m) (hm:m≤800000): ∃ a b t' s',Qc9.f c t s=some (a,b,t',s')∧Cu c t' (m+6):=by
 obtain ⟨o, t1, s1, e1, k1⟩ := Qg6 (s := s) 10 h (by omega)
 unfold Qc9.f
 rw [Option.bind_some, e1, Option.bind_some]
 cases o with
 | true =>
  obtain ⟨v, t2, s2, e2, _, _, k2⟩ := Qez (s := s1) 13 k1 (by omega)
  obtain ⟨v', t3, s3, e3, _, _, k3⟩ := Qez (s := s2) 13 k2 (by omega)
  dsimp only
  rw [if_pos rfl, e2, Option.bind_some, e3, Option.bind_some]
  exact ⟨_, _, _, _, rfl, k3⟩
 | false =>
  obtain ⟨v, t2, s2, e2, v0, v1, k2⟩ := Qez (s := s1) 11 k1 (by omega)
  dsimp only
  rw [if_neg (by simp), show ((List.length [[1, 1], [1, 4], [2, 2], [2, 3], [3, 2], [2, 4], [4, 2], [3, 3], [2, 5], [5, 2], [3, (1 : Int)]] : Nat) : Int) = 11 from rfl, e2, Option.bind_some]
  have hv : v = 0 ∨ v = 1 ∨ v = 2 ∨ v = 3 ∨ v = 4 ∨ v = 5 ∨ v = 6 ∨ v = 7 ∨ v = 8 ∨ v = 9 ∨ v = 10 := by omega
  rcases hv with rfl | rfl | rfl | rfl | rfl | rfl | rfl | rfl | rfl | rfl | rfl <;> exact ⟨_, _, _, _, rfl, k2.mono (by omega)⟩
theorem Qhs {c:List Int} {t s:Int} {m:Nat} (h:Cu c t m) (hm:m≤800000): ∃ v t' s',Qdl.f c t s=some (v,t',s')∧Cu c t' (m+4):=by
 obtain ⟨o, t1, s1, e1, k1⟩ := Qg6 (s := s) 10 h (by omega)
 unfold Qdl.f
 rw [e1, Option.bind_some]
 cases o with
 | true =>
  obtain ⟨v, t2, s2, e2, _, k2⟩ := Qis (s := s1) [(-1), 60, 61] (by simp) k1 (by omega)
  dsimp only
  rw [if_pos rfl, e2, Option.bind_some]
  exact ⟨_, _, _, rfl, k2⟩
 | false =>
  obtain ⟨v, t2, s2, e2, _, _, k2⟩ := Qez (s := s1) 14 k1 (by omega)
  dsimp only
  rw [if_neg (by simp), e2, Option.bind_some]
  exact ⟨_, _, _, rfl, k2⟩
def drB (a b:Int):Bool:=match Qdb.f 400 a b with
 | some g => (match Qv.f 400 g.1 (wrap64 (a + b)) with
  | some r => decide (1 ≤ r.1.length) && decide (r.1.length ≤ 20)
  | none => false)
 | none => false
theorem dr_all:Qgl drB=true:=by decide+kernel
theorem dr_at {a b:Int} (hs:Qdt a b=true): ∃ (g r:List Int × Bool),Ev (fun k=>Qdb.f k a b) g∧Ev (fun k=>Qv.f k g.1 (wrap64 (a+b))) r∧1≤r.1.length∧r.1.length≤20:=by
 have h := Qhi dr_all hs
 unfold drB at h
 split at h
 ·
  rename_i g e1
  split at h
  ·
   rename_i r e2
   rw [Bool.and_eq_true, decide_eq_true_eq, decide_eq_true_eq] at h
   exact ⟨g, r, Ev.of (Qdb.mono _ _) e1, Ev.of (Qv.mono _ _) e2, h.1, h.2⟩
  ·
   cases h
 ·
  cases h
def RestR (c:List Int) (m:Nat) (f:Nat→Option (List Int × Int × Int)):Prop:= ∃ (R:List Int) (t s:Int),R.length≤100∧Cu c t m∧Ev f (R,t,s)
theorem Qi9 {c:List Int} : ∀ (d:Nat) (x:List Int) (t s:Int) (m:Nat),x.length+d≤50→Cu c t m→m+2*d≤800000→RestR c (m+2*d) (fun k=>Q5.l0 k x (d:Int) c t s)
 | 0, x, t, s, m, h, hc, hm => ⟨x, t, s, by omega, hc, Ev.step (fun _ => Q5.l0.eq_2 ..) (Qb6 (by omega) (Ev.now _))⟩
 | d + 1, x, t, s, m, h, hc, hm => by
  obtain ⟨w, t1, s1, e1, w0, w1, k1⟩ := Qez (s := s) 9 hc (by omega)
  obtain ⟨R, t', s', g1, g2, e⟩ := Qi9 (c := c) d (x ++ [w]) t1 s1 (m + 2) (by rw [List.length_append, List.length_singleton]; omega) k1 (by omega)
  refine ⟨R, t', s', g1, g2.mono (by omega), Ev.step (fun _ => Q5.l0.eq_2 ..) (Qbf (by omega) (Qbw e1 (Qbf (by omega) ?_)))⟩
  rw [show wrap64 (((d + 1 : Nat) : Int) - 1) = (d : Int) by rw [Qd6 (by omega) (by omega)]; omega]
  exact e
theorem Qi8 {c:List Int} {t s:Int} {m:Nat} (a b:Int) (o:Bool) (hs:o=true∨Qdt a b=true) (h:Cu c t m) (hm:m≤700000):RestR c (m+40) (fun k=>Q5.j0 k a b o c t s):=by
 cases o with
 | true =>
  obtain ⟨w, t1, s1, e1, w0, w1, k1⟩ := Qez (s := s) 8 h (by omega)
  obtain ⟨n, rfl⟩ : ∃ n : Nat, w = (n : Int) := ⟨w.toNat, by omega⟩
  obtain ⟨R, t', s', g1, g2, e⟩ := Qi9 (c := c) (1 + n) [] t1 s1 (m + 2) (by rw [List.length_nil]; omega) k1 (by omega)
  refine ⟨R, t', s', g1, g2.mono (by omega), Ev.step (fun _ => Q5.j0.eq_2 ..) (Qbf rfl (Qbw e1 ?_))⟩
  dsimp only
  rw [one_plus n (by omega)]
  exact e
 | false =>
  have hs : Qdt a b = true := hs.resolve_left (by simp)
  obtain ⟨g, r, E1, E2, l1, l2⟩ := dr_at hs
  obtain ⟨w, t1, s1, e1, w0, w1, k1⟩ := Qez (s := s) 10 h (by omega)
  by_cases c0 : w = 0
  ·
   obtain ⟨v, t2, s2, e2, v0, v1, k2⟩ := Qez (s := s1) (r.1.length : Int) k1 (by omega)
   obtain ⟨u, t3, s3, e3, hu, k3⟩ := Qis (s := s2) [(-1), 0, 100000000, 100000001] (by simp) k2 (by omega)
   refine ⟨_, t3, s3, ?_, k3.mono (by omega), Ev.step (fun _ => Q5.j0.eq_2 ..) (Qb6 (by simp) (Ev.bind E1 (Ev.bind E2 (Qbw e1 (Qbf c0 (Qbw e2 (Qbw e3 (Qbf v0 (Qbf (by omega) (Ev.now _))))))))))⟩
   dsimp only
   rw [List.length_set]; omega
  ·
   by_cases c1 : w = 1
   ·
    obtain ⟨v, t2, s2, e2, v0, v1, k2⟩ := Qez (s := s1) 2 k1 (by omega)
    have hw : wrap64 (60 + v) = 60 + v := Qd6 (by omega) (by omega)
    refine ⟨_, t2, s2, ?_, k2.mono (by omega), Ev.step (fun _ => Q5.j0.eq_2 ..) (Qb6 (by simp) (Ev.bind E1 (Ev.bind E2 (Qbw e1 (Qb6 c0 (Qbf c1 (Qbw e2 (Qbf (by rw [hw]; omega) (Qbf (by rw [hw]; omega) (Ev.now _))))))))))⟩
    dsimp only
    rw [List.length_replicate, hw]; omega
   ·
    exact ⟨r.1, t1, s1, by omega, k1.mono (by omega), Ev.step (fun _ => Q5.j0.eq_2 ..) (Qb6 (by simp) (Ev.bind E1 (Ev.bind E2 (Qbw e1 (Qb6 c0 (Qb6 c1 (Ev.now _)))))))⟩
theorem Qja {c:List Int} {t s:Int} {m:Nat} (h:Cu c t m) (hm:m≤600000):RestR c (m+60) (fun k=>Q5.f k c t s):=by
 obtain ⟨a, b, t1, s1, e1, k1⟩ := Qgq (s := s) h (by omega)
 by_cases hs : Qdt a b = true
 ·
  obtain ⟨o, t2, s2, e2, k2⟩ := Qg6 (s := s1) 6 k1 (by omega)
  obtain ⟨R, t', s', g1, g2, e⟩ := Qi8 (s := s2) a b o (.inr hs) k2 (by omega)
  exact ⟨R, t', s', g1, g2.mono (by omega), Qbw e1 (Qbw (Qex a b) (Qbf hs (Qbw e2 e)))⟩
 ·
  obtain ⟨R, t', s', g1, g2, e⟩ := Qi8 (s := s1) a b true (.inl rfl) k1 (by omega)
  exact ⟨R, t', s', g1, g2.mono (by omega), Qbw e1 (Qbw (Qex a b) (Qb6 hs e))⟩
theorem Qhg {c:List Int} (h:Cu c 0 0): ∃ R:List Int,R.length≤100∧Ev (fun k=>Qda.f k c) R:=by
 obtain ⟨R, t', s', g1, g2, e⟩ := Qja (s := 0) h (by omega)
 exact ⟨R, g1, Ev.bind e (Ev.now _)⟩
theorem Qjh {c:List Int} (h:Cu c 0 0): ∃ a b:Int,Qep.f c=some (a,b):=by
 obtain ⟨a, t1, s1, e1, k1⟩ := Qhs (s := 0) h (by omega)
 obtain ⟨b, t2, s2, e2, k2⟩ := Qhs (s := s1) k1 (by omega)
 unfold Qep.f
 rw [e1, Option.bind_some, e2, Option.bind_some]
 exact ⟨_, _, rfl⟩
theorem Qkh {c:List Int} (h:Cu c 0 0): ∃ a b:Int,Qd0.f c=some (a,b):=by
 obtain ⟨a, b, t1, s1, e1, k1⟩ := Qgq (s := 0) h (by omega)
 unfold Qd0.f
 rw [e1, Option.bind_some]
 exact ⟨_, _, rfl⟩
theorem Qf1 {c:List Int} (h:Cu c 0 0): ∃ a b:Int,Qdi.f c=some (a,b):=by
 obtain ⟨a, b, e⟩ := Qkh h
 unfold Qdi.f
 rw [e, Option.bind_some]
 exact ⟨_, _, rfl⟩
theorem Qix {c:List Int} (h:Cu c 0 0): ∃ a b d:Int,Qed.f c=some (a,b,d):=by
 obtain ⟨a, b, t1, s1, e1, k1⟩ := Qgq (s := 0) h (by omega)
 obtain ⟨d, t2, s2, e2, k2⟩ := Qhs (s := s1) k1 (by omega)
 unfold Qed.f
 rw [e1, Option.bind_some, e2, Option.bind_some]
 exact ⟨_, _, _, rfl⟩
theorem Qg0 {c:List Int} (h:Cu c 0 0): ∃ a b d:Int,Qd4.f c=some (a,b,d):=by
 obtain ⟨a, b, d, e⟩ := Qix h
 unfold Qd4.f
 rw [e, Option.bind_some]
 exact ⟨_, _, _, rfl⟩
def stabLB (a b:Int):Bool:=match Q3.f 1200 a b with
 | some r => decide (r.1.length ≤ 1000)
 | none => false
theorem Qku:Qgl stabLB=true:=by decide+kernel
theorem stabL_at {a b:Int} (hs:Qdt a b=true): ∃ r:List Int × Bool,r.1.length≤1000∧Ev (fun k=>Q3.f k a b) r:=by
 have h := Qhi Qku hs
 unfold stabLB at h
 split at h
 ·
  rename_i r e
  exact ⟨r, of_decide_eq_true h, Ev.of (Q3.mono _ _) e⟩
 ·
  cases h
def Qjo (f:Nat→Option (List Int × List Int)):Prop:= ∃ R S:List Int,R.length≤100∧S.length≤2000∧Ev f (R,S)
theorem Qhk {c:List Int} {t s:Int} {m:Nat} (a b:Int) (o:Bool) (hs:o=true∨Qdt a b=true) (h:Cu c t m) (hm:m≤500000):Qjo (fun k=>Qbs.j0 k a b o c t s):=by
 cases o with
 | true =>
  obtain ⟨R, t1, s1, g1, k1, e⟩ := Qja (s := s) h (by omega)
  obtain ⟨v, t2, s2, e2, v0, v1, k2⟩ := Qez (s := s1) 4 k1 (by omega)
  exact ⟨R, [v, 1], g1, by simp, Ev.step (fun _ => Qbs.j0.eq_2 ..) (Qbf rfl (Ev.bind e (Qbw e2 (Ev.now _))))⟩
 | false =>
  have hs : Qdt a b = true := hs.resolve_left (by simp)
  obtain ⟨g, r, E1, E2, l1, l2⟩ := dr_at hs
  obtain ⟨q, hq, E3⟩ := stabL_at hs
  obtain ⟨o, t1, s1, e1, k1⟩ := Qg6 (s := s) 4 h (by omega)
  cases o with
  | true =>
   obtain ⟨v, t2, s2, e2, v0, v1, k2⟩ := Qez (s := s1) 3 k1 (by omega)
   exact ⟨_, _, by omega, by rw [List.length_append, List.length_singleton]; omega, Ev.step (fun _ => Qbs.j0.eq_2 ..) (Qb6 (by simp) (Ev.bind E1 (Ev.bind E2 (Ev.bind E3 (Qbw e1 (Qbf rfl (Qbw e2 (Qbf (by omega) (Ev.now _)))))))))⟩
  | false =>
   exact ⟨_, _, by omega, by omega, Ev.step (fun _ => Qbs.j0.eq_2 ..) (Qb6 (by simp) (Ev.bind E1 (Ev.bind E2 (Ev.bind E3 (Qbw e1 (Qb6 (by simp) (Ev.now _)))))))⟩
theorem Qiw {c:List Int} (h:Cu c 0 0):Qjo (fun k=>Qbs.f k c):=by
 obtain ⟨a, b, t1, s1, e1, k1⟩ := Qgq (s := 0) h (by omega)
 by_cases hs : Qdt a b = true
 ·
  obtain ⟨o, t2, s2, e2, k2⟩ := Qg6 (s := s1) 5 k1 (by omega)
  obtain ⟨R, S, g1, g2, e⟩ := Qhk (s := s2) a b o (.inr hs) k2 (by omega)
  exact ⟨R, S, g1, g2, Qbw e1 (Qbw (Qex a b) (Qbf hs (Qbw e2 e)))⟩
 ·
  obtain ⟨R, S, g1, g2, e⟩ := Qhk (s := s1) a b true (.inl rfl) k1 (by omega)
  exact ⟨R, S, g1, g2, Qbw e1 (Qbw (Qex a b) (Qb6 hs e))⟩
end Go.Proofs.YtkgngggppcmpfaaGreat.M
end
section
namespace Go.Proofs.YtkgngggppcmpfaaGreat.M
open Go.RowKit Go.Proofs.YtkgngggppcmpfaaGreatW.PrintWords Go.Proofs.YtkgngggppcmpfaaGreatW.PrintLast Go.Proofs.YtkgngggppcmpfaaGreatW.PrintMore Go.Proofs.YtkgngggppcmpfaaGreat.L
end Go.Proofs.YtkgngggppcmpfaaGreat.M
end
section
namespace Go.Proofs.YtkgngggppcmpfaaGreat.M
open Go.RowKit Go.Proofs.YtkgngggppcmpfaaGreatW.PrintWords Go.Proofs.YtkgngggppcmpfaaGreatW.PrintLast Go.Proofs.YtkgngggppcmpfaaGreatW.PrintMore Go.Proofs.YtkgngggppcmpfaaGreat.L
set_option linter.unusedVariables false
theorem big_eq (a b:List Int): ∃ v,Qfc.f a b=some v∧(v=false→a.length≤1048576∧b.length≤1048576):=by
 unfold Qfc.f
 by_cases h : (a.length : Int) > 1048576
 ·
  rw [if_pos h]; exact ⟨true, rfl, fun e => by cases e⟩
 ·
  rw [if_neg h]
  refine ⟨_, rfl, fun e => ?_⟩
  rw [decide_eq_false_iff_not, Qd6 (by omega) (by omega)] at e
  omega
theorem Qke {x y:Int} {a b:List Int} (e:x=y):decide (x::a=y::b)=decide (a=b):=decide_eq_decide.mpr ⟨fun z=>(List.cons.inj z).2,fun z=>by rw [e,z]⟩
theorem Qi1 (a b:List Int) (hl:a.length≤1000000) (hab:a.length=b.length): ∀ (d i:Nat),i+d=a.length→Ev (fun k=>Qcp.l0 k a b (a.length:Int) (i:Int)) (decide (a.drop i=b.drop i))
 | 0, i, h => by
  refine Ev.step (fun _ => Qcp.l0.eq_2 ..) (Qb6 (by omega) ?_)
  rw [List.drop_of_length_le (by omega), List.drop_of_length_le (by omega)]
  exact Ev.now _
 | d + 1, i, h => by
  refine Ev.step (fun _ => Qcp.l0.eq_2 ..) (Qbf (by omega) (Qbf (by omega) (Qbf (by omega) (Qbf (by omega) ?_))))
  rw [Qd7 (by omega), Qe8 (by omega : i < a.length), Qe8 (by omega : i < b.length)]
  rw [List.drop_eq_getElem_cons (by omega : i < a.length), List.drop_eq_getElem_cons (by omega : i < b.length)]
  refine Qei (fun e => ?_) (fun e => ?_)
  ·
   rw [Qke e]; exact Qi1 a b hl hab d (i + 1) (by omega)
  ·
   rw [decide_eq_false fun h => e (List.cons.inj h).1]; exact Ev.now false
theorem oSame_ev (a b:List Int) (hl:a.length≤1000000):Ev (fun k=>Qcp.f k a b) (decide (a=b)):=by
 refine Qei (fun e => ?_) (fun e => ?_)
 ·
  have := Qi1 a b hl (by omega) a.length 0 (by omega)
  rw [List.drop_zero, List.drop_zero] at this
  exact this
 ·
  rw [decide_eq_false fun h => e (by rw [h])]; exact Ev.now false
theorem Qhy (a:List Int) (hl:a.length≤1000000):Ev (fun k=>Qcp.f k a a) true:=by simpa using oSame_ev a a hl
end Go.Proofs.YtkgngggppcmpfaaGreat.M
end
section
namespace Go.Proofs.YtkgngggppcmpfaaGreat.M
open Go.RowKit Go.Proofs.YtkgngggppcmpfaaGreatW.PrintWords Go.Proofs.YtkgngggppcmpfaaGreatW.PrintLast Go.Proofs.YtkgngggppcmpfaaGreatW.PrintMore Go.Proofs.YtkgngggppcmpfaaGreat.L
set_option linter.unusedVariables false
theorem sv_at {a b:Int} (hs:Qdt a b=true): ∃ (ls:List Int) (hk:List Int),Qbo.f 1200 a b=some ls∧Qcw.f 1200 a b=some (hk,true)∧(∀ l ∈ ls,l≠0)∧ls.length≤1000∧
  Qdj.sort (ls.map (Qgc (wrap64 (a * b)))) = stO ls (wrap64 (a * b)) ∧ Qjd (wrap64 (a * b)) ls hk = true ∧ Qjc a b hk (stO ls (wrap64 (a * b))) = true := by
 have h := sv_of hs
 unfold svB at h
 split at h
 ·
  rename_i ls hk e1 e2
  rw [Bool.and_eq_true, Bool.and_eq_true, Bool.and_eq_true, Bool.and_eq_true, Bool.and_eq_true, Bool.and_eq_true, decide_eq_true_eq, List.all_eq_true, List.isPerm_iff] at h
  obtain ⟨⟨⟨⟨⟨⟨g1, g2⟩, g3⟩, g4⟩, g5⟩, g6⟩, g7⟩ := h
  refine ⟨ls, hk.1, e1, ?_, fun l hl => by have := g1 l hl; rwa [bne_iff_ne] at this, g2, Qjy (Qgt _ g3) g4, g6, g7⟩
  rw [e2, show hk = (hk.1, hk.2) from rfl, g5]
 ·
  cases h
theorem ps_val {a b:Int} (hs:Qdt a b=true) {ls:List Int} (h2:Qbo.f 1200 a b=some ls) (g2: ∀ l ∈ ls,l≠0) (g3:ls.length≤1000) {o:List Int} (e:Qdj.sort (ls.map (Qgc (wrap64 (a*b))))=o):
  Ev (fun k => Qcc.f k a b) (o, true) := by
 refine Qbw (Qeq a b) (Qbf hs (Ev.bind (Ev.of (Qbo.mono a b) h2) ?_))
 have hl0 := Qh7 (wrap64 (a * b)) ls g2 g3 ls.length 0 [] (by omega) rfl
 rw [List.drop_zero, List.nil_append, e] at hl0
 exact Ev.bind hl0 (Ev.now _)
theorem ps_no {a b:Int} (hs: ¬ Qdt a b=true):Ev (fun k=>Qcc.f k a b) ([],false):=Qbw (Qeq a b) (Qb6 hs (Ev.now _))
theorem pf_val {a b:Int} {d:Nat} (hs:Qdt a b=true) (hd:d≤60) {ls:List Int} {w:Int} (hL:Qbo.f 1200 a b=some ls) (hc:Qcy.f 1200 ls (d:Int)=some w):Ev (fun k=>Qbi.f k a b (d:Int)) (w,true):=by
 refine Qbw (Qeq a b) (Qbf hs (Qbw (Qe2 _ _ _) ?_))
 rw [show inB (d : Int) 0 60 = true from Qdw.mpr (by omega)]
 exact Ev.step (fun _ => Qbi.j0.eq_2 ..) (Qb6 (by simp) (Ev.bind (Ev.of (Qbo.mono _ _) hL) (Ev.bind (Ev.of (Qcy.mono _ _) hc) (Ev.now _))))
theorem pf_no {a b d:Int} (h: ¬ (Qdt a b=true∧inB d 0 60=true)):Ev (fun k=>Qbi.f k a b d) (0,false):=by
 refine Qbw (Qeq a b) (Qei (fun hs => Qbw (Qe2 _ _ _) ?_) (fun hs => Ev.step (fun _ => Qbi.j0.eq_2 ..) (Qbf rfl (Ev.now _))))
 rw [Bool.eq_false_iff.mpr fun e => h ⟨hs, e⟩]
 exact Ev.step (fun _ => Qbi.j0.eq_2 ..) (Qbf rfl (Ev.now _))
theorem sv_j6 {a b:Int} {st:List Int} {fine:Bool} (H:fine=true→Qdt a b=true∧Ev (fun k=>Qcc.f k a b) (st,true)):Ev (fun k=>laws_FnSievesOfTableaux.j6 k a b st fine) true:=by
 cases fine with
 | false => exact Ev.step (fun _ => laws_FnSievesOfTableaux.j6.eq_2 ..) (Qb6 (by simp) (Ev.now _))
 | true =>
  obtain ⟨hs, hp⟩ := H rfl
  obtain ⟨ls, hk, e1, e2, g1, g2, g3, g4, g5⟩ := sv_at hs
  have est := Qg1 hp (ps_val hs e1 g1 g2 g3)
  injection est with est _
  subst est
  unfold Qjc at g5
  split at g5
  ·
   rename_i rr e3
   rw [Bool.and_eq_true, Bool.and_eq_true, beq_iff_eq] at g5
   obtain ⟨⟨h1, h2⟩, h3⟩ := g5
   split at h3
   ·
    rename_i cc e4
    rw [Bool.and_eq_true, beq_iff_eq] at h3
    refine Ev.step (fun _ => laws_FnSievesOfTableaux.j6.eq_2 ..) (Qbf rfl (Ev.bind (Ev.of (Qcw.mono _ _) e2) (Ev.bind (Ev.of (Q7.mono _ _) e3) (Qbw h2 (Ev.bind (Ev.of (Qm.mono _) e4) (Qbf rfl (Qbf h1 (Qbf rfl (Qbf h3.1 ?_)))))))))
    exact Ev.step (fun _ => laws_FnSievesOfTableaux.j7.eq_2 ..) (Qb6 (by simp) (Ev.of (fun k => ((laws_FnSievesOfTableaux.mono_l k).2.2.2.2.2.2.2.1 _ _ _ _ _ _)) h3.2))
   ·
    cases h3
  ·
   cases g5
def Qgp (m e:Nat):Nat→Nat→Int→Option Int
 | 0, _, acc => some acc
 | q + 1, g, acc => if Int.tmod (m : Int) (g : Int) = 0 then (Qbu.f 100 (g : Int) (e : Int)).bind fun s => Qgp m e q (g + 1) (wrap64 (acc + s)) else Qgp m e q (g + 1) acc
def rsumB (m e:Nat):Bool:=Qgp m e m 1 0==some (if Int.tmod (e:Int) (m:Int)=0 then (m:Int) else 0)
theorem Qj9:((List.range' 1 60).all fun m=>(List.range 61).all fun e=>rsumB m e)=true:=by decide+kernel
theorem rsum_at {m e:Nat} (h1:1≤m) (h2:m≤60) (he:e≤60):Qgp m e m 1 0=some (if Int.tmod (e:Int) (m:Int)=0 then (m:Int) else 0):=by
 have h := Qj9
 rw [List.all_eq_true] at h
 have h3 := h m (by rw [List.mem_range'_1]; omega)
 rw [List.all_eq_true] at h3
 have h4 := h3 e (List.mem_range.mpr (by omega))
 unfold rsumB at h4
 exact beq_iff_eq.mp h4
theorem Qho {m e:Nat} (h1:1≤m) (h2:m≤60) (he:e≤60) {s:Int} (h:Qbu.f 100 (m:Int) (e:Int)=some s):Ev (fun k=>Qdx.f k (m:Int) (e:Int)) (s,true):=
 Qbw (Qf8 _) (Qbf (Qdw.mpr (by omega)) (Qbw (Qe2 _ _ _) (Qbf (Qdw.mpr (by omega)) (Ev.bind (Ev.of (Qbu.mono _ _) h) (Ev.now _)))))
theorem sv_l0 {a b:Int} {st:List Int} {fine:Bool} (J:Ev (fun k=>laws_FnSievesOfTableaux.j6 k a b st fine) true) {m e:Nat} (h1:1≤m) (h2:m≤60) (he:e≤60): ∀ (q g:Nat) (acc:Int),g+q=m+1→1≤g→
  Qgp m e q g acc = some (if Int.tmod (e : Int) (m : Int) = 0 then (m : Int) else 0) → Ev (fun k => laws_FnSievesOfTableaux.l0 k a b st fine (m : Int) (e : Int) acc (g : Int)) true
 | 0, g, acc, hg, g1, h => by
  rw [Qgp] at h
  injection h with h
  subst h
  refine Ev.step (fun _ => laws_FnSievesOfTableaux.l0.eq_2 ..) (Qb6 (by omega) (Qb6 (by omega) (Qei (fun c => ?_) (fun c => ?_))))
  ·
   exact Qbf (if_pos c) J
  ·
   exact Qbf (if_neg c) J
 | q + 1, g, acc, hg, g1, h => by
  rw [Qgp] at h
  refine Ev.step (fun _ => laws_FnSievesOfTableaux.l0.eq_2 ..) (Qbf (by omega) (Qb6 (by omega) (Qei (fun c => ?_) (fun c => ?_))))
  ·
   rw [if_pos c] at h
   obtain ⟨s, hs, h⟩ := Option.bind_eq_some_iff.mp h
   refine Ev.bind (Qho g1 (by omega) he hs) (Qbf rfl ?_)
   rw [Qd7 (by omega)]
   exact sv_l0 J h1 h2 he q (g + 1) _ (by omega) (by omega) h
  ·
   rw [if_neg c] at h
   rw [Qd7 (by omega)]
   exact sv_l0 J h1 h2 he q (g + 1) _ (by omega) (by omega) h
theorem Qim (m e:Int): ∃ r:Int × Bool,Ev (fun k=>Qeb.f k m e) r∧Ev (fun k=>Qdx.f k m e) r∧(r.2=true→inB m 1 60=true∧inB e 0 60=true):=by
 by_cases hm : inB m 1 60 = true
 ·
  by_cases he : inB e 0 60 = true
  ·
   have b1 := Qdw.mp hm
   have b2 := Qdw.mp he
   obtain ⟨m, rfl⟩ : ∃ n : Nat, m = (n : Int) := ⟨m.toNat, by omega⟩
   obtain ⟨e, rfl⟩ : ∃ n : Nat, e = (n : Int) := ⟨e.toNat, by omega⟩
   obtain ⟨s, e1, e2⟩ := root_at (m := m) (d := e) (by omega) (by omega) (by omega)
   exact ⟨(s, true), Qbw (Qe6 _ _ _) (Qbf hm (Qbw (Qe6 _ _ _) (Qbf he (Ev.bind e1 (Ev.now _))))), Qho (by omega) (by omega) (by omega) e2, fun _ => ⟨hm, he⟩⟩
  ·
   exact ⟨(0, false), Qbw (Qe6 _ _ _) (Qbf hm (Qbw (Qe6 _ _ _) (Qb6 he (Ev.now _)))), Qbw (Qf8 _) (Qbf hm (Qbw (Qe2 _ _ _) (Qb6 he (Ev.now _)))), fun h => by cases h⟩
 ·
  exact ⟨(0, false), Qbw (Qe6 _ _ _) (Qb6 hm (Ev.now _)), Qbw (Qf8 _) (Qb6 hm (Ev.now _)), fun h => by cases h⟩
theorem sv_j2 {c:List Int} (hc:Cu c 0 0) {a b:Int} {st:List Int} {fine:Bool} (J:Ev (fun k=>laws_FnSievesOfTableaux.j6 k a b st fine) true):Ev (fun k=>laws_FnSievesOfTableaux.j2 k c a b st fine) true:=by
 obtain ⟨R, hR, e1⟩ := Qhg hc
 obtain ⟨r, hr, s1, i1⟩ := Qfw R (by omega)
 obtain ⟨X, Y, hX, hY, e2⟩ := Qiw hc
 obtain ⟨v, s2, i2⟩ := Qgg X Y (by omega) (by omega)
 refine Ev.step (fun _ => laws_FnSievesOfTableaux.j2.eq_2 ..) (Ev.bind e1 (Ev.bind i1 (Ev.bind s1 (Ev.bind e2 (Qbw i2 (Ev.bind s2 (Qb6 (by simp) (Ev.bind (Qhy _ (by omega)) (Qbf rfl (Qb6 (by simp) ?_))))))))))
 obtain ⟨m, e, e3⟩ := Qjh hc
 obtain ⟨q, s3, i3, h3⟩ := Qim m e
 refine Ev.step (fun _ => laws_FnSievesOfTableaux.j3.eq_2 ..) (Qb6 (by simp) (Qbw e3 (Ev.bind i3 (Ev.bind s3 (Qb6 (by simp) ?_)))))
 refine Ev.step (fun _ => laws_FnSievesOfTableaux.j4.eq_2 ..) (Qb6 (by simp) (Qei (fun c => ?_) (fun c => J)))
 obtain ⟨hm, he⟩ := h3 c
 have b1 := Qdw.mp hm
 have b2 := Qdw.mp he
 obtain ⟨m, rfl⟩ : ∃ n : Nat, m = (n : Int) := ⟨m.toNat, by omega⟩
 obtain ⟨e, rfl⟩ : ∃ n : Nat, e = (n : Int) := ⟨e.toNat, by omega⟩
 exact sv_l0 J (by omega) (by omega) (by omega) m 1 0 (by omega) (by omega) (rsum_at (by omega) (by omega) (by omega))
theorem sv_j0 {c:List Int} (hc:Cu c 0 0) {a b:Int} {st:List Int} {fine:Bool} (J:Ev (fun k=>laws_FnSievesOfTableaux.j6 k a b st fine) true):Ev (fun k=>laws_FnSievesOfTableaux.j0 k c a b st fine false) true:=by
 obtain ⟨x, y, d, e1⟩ := Qg0 hc
 obtain ⟨r, s1, i1⟩ := Qfr x y d
 have J2 := sv_j2 hc J
 refine Ev.step (fun _ => laws_FnSievesOfTableaux.j0.eq_2 ..) (Qb6 (by simp) (Qbw e1 (Ev.bind i1 (Ev.bind s1 (Qb6 (by simp) ?_)))))
 refine Ev.step (fun _ => laws_FnSievesOfTableaux.j1.eq_2 ..) (Qb6 (by simp) (Qei (fun ht => ?_) (fun ht => J2)))
 by_cases h : Qdt x y = true ∧ inB d 0 60 = true
 ·
  obtain ⟨hs, hd⟩ := h
  have bd := Qdw.mp hd
  obtain ⟨d, rfl⟩ : ∃ n : Nat, d = (n : Int) := ⟨d.toNat, by omega⟩
  obtain ⟨ls, hk, e2, e3, g1, g2, g3, g4, g5⟩ := sv_at hs
  unfold Qjd at g4
  split at g4
  ·
   rename_i rr e4
   rw [Bool.and_eq_true, List.all_eq_true] at g4
   have h5 := g4.2 d (List.mem_range.mpr (by omega))
   split at h5
   ·
    rename_i v w e5 e6
    rw [Bool.and_eq_true, beq_iff_eq] at h5
    have er := Qg1 i1 (pf_val hs (by omega) e2 e6)
    refine Ev.bind (Ev.of (Qcw.mono _ _) e3) (Ev.bind (Ev.of (Q7.mono _ _) e4) (Ev.bind (Ev.of (Qi.mono _ _) e5) (Qbf rfl (Qbf g4.1 (Qbf h5.1 (Qbf ?_ J2))))))
    rw [er]; exact h5.2
   ·
    cases h5
  ·
   cases g4
 ·
  have er := Qg1 i1 (pf_no h)
  rw [er] at ht
  cases ht
theorem pFnSievesOfTableaux:laws_FnSievesOfTableaux.Pure:=by
 intro l0 l1 h1 h2 hb h3 h4 hb1
 refine Ev.rounds ?_
 obtain ⟨v, hv, hl⟩ := big_eq l0 l1
 cases v with
 | true => exact Qbw hv (Qbf rfl (Ev.now _))
 | false =>
  have hl := hl rfl
  have c0 := Qiv hl.1 hb
  have c1 := Qiv hl.2 hb1
  obtain ⟨a, b, e1⟩ := Qf1 c0
  obtain ⟨r, hr, hs, hi⟩ := Qfe a b
  refine Qbw hv (Qb6 (by simp) (Qbw e1 (Ev.bind hi (Ev.bind hs (Qb6 (by simp) (Ev.bind (Qhy _ (by omega)) ?_))))))
  refine sv_j0 c1 (sv_j6 fun hf => ?_)
  by_cases hd : Qdt a b = true
  ·
   refine ⟨hd, ?_⟩
   rw [show ((r.1, true) : List Int × Bool) = r by rw [← hf]]
   exact hi
  ·
   have er := Qg1 hi (ps_no hd)
   rw [er] at hf
   cases hf
end Go.Proofs.YtkgngggppcmpfaaGreat.M
namespace Go.Proofs.YtkgngggppcmpfaaGreat.Pure
open Go.Proofs.YtkgngggppcmpfaaGreat.L
theorem FnSievesOfTableaux:laws_FnSievesOfTableaux.Pure:=Go.Proofs.YtkgngggppcmpfaaGreat.M.pFnSievesOfTableaux
end Go.Proofs.YtkgngggppcmpfaaGreat.Pure
end
