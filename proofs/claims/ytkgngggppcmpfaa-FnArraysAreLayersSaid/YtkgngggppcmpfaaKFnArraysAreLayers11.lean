/- Laws about the given program: the law FnArraysAreLayers answers true for every input that its row lets in; no condition is added to the given statement. Contracts of the Go functions that it reaches, and the plain proof over lists. -/
import Derived.Test.YtkgngggppcmpfaaWFnArraysAreLayers0
import Derived.Test.YtkgngggppcmpfaaKFnArraysAreLayers0
import Derived.Test.YtkgngggppcmpfaaKFnArraysAreLayers1
import Derived.Test.YtkgngggppcmpfaaKFnArraysAreLayers2
import Derived.Test.YtkgngggppcmpfaaKFnArraysAreLayers3
import Derived.Test.YtkgngggppcmpfaaKFnArraysAreLayers4
import Derived.Test.YtkgngggppcmpfaaKFnArraysAreLayers5
import Derived.Test.YtkgngggppcmpfaaKFnArraysAreLayers6
import Derived.Test.YtkgngggppcmpfaaKFnArraysAreLayers7
import Derived.Test.YtkgngggppcmpfaaKFnArraysAreLayers8
import Derived.Test.YtkgngggppcmpfaaKFnArraysAreLayers9
import Derived.Test.YtkgngggppcmpfaaKFnArraysAreLayers10
section
namespace Go.Proofs.Ytkgngggppcmpfaa.M
open Go.RowKit Go.Proofs.YtkgngggppcmpfaaW.PrintWords Go.Proofs.YtkgngggppcmpfaaW.PrintLast Go.Proofs.YtkgngggppcmpfaaW.PrintMore Go.Proofs.Ytkgngggppcmpfaa.L
set_option linter.unusedVariables false
theorem Qkm (c:Nat→Prop) [DecidablePred c] (e:Nat): ∀ (d i a:Nat),((List.range' i d).foldl (fun o i=>if c i then o|||2 ^ i else o) a).testBit e=true ↔ (a.testBit e=true∨(i≤e∧e<i+d∧c e))
 | 0, i, a => by
  rw [List.range'_zero, List.foldl_nil]
  exact ⟨.inl, fun h => h.elim id fun q => by omega⟩
 | d + 1, i, a => by
  rw [List.range'_succ, List.foldl_cons, Qkm c e d (i + 1)]
  by_cases h : c i
  ·
   rw [if_pos h, Nat.testBit_or, Bool.or_eq_true, Nat.testBit_two_pow]
   constructor
   ·
    rintro ((h1 | h1) | h1)
    ·
     exact .inl h1
    ·
     have q : i = e := of_decide_eq_true h1
     subst q; exact .inr ⟨Nat.le_refl _, by omega, h⟩
    ·
     exact .inr ⟨by omega, by omega, h1.2.2⟩
   ·
    rintro (h1 | ⟨h1, h2, h3⟩)
    ·
     exact .inl (.inl h1)
    ·
     by_cases q : i = e
     ·
      exact .inl (.inr (decide_eq_true q))
     ·
      exact .inr ⟨by omega, by omega, h3⟩
  ·
   rw [if_neg h]
   constructor
   ·
    rintro (h1 | ⟨h1, h2, h3⟩)
    ·
     exact .inl h1
    ·
     exact .inr ⟨by omega, by omega, h3⟩
   ·
    rintro (h1 | ⟨h1, h2, h3⟩)
    ·
     exact .inl h1
    ·
     have : i ≠ e := fun q => h (q ▸ h3)
     exact .inr ⟨by omega, by omega, h3⟩
theorem Qe9 (y:List Nat) (n e:Nat):(upN y n).testBit e=true ↔ e<y.length∧y.getD e 0≤n:=by
 unfold upN
 rw [Qkm (fun i => y.getD i 0 ≤ n) e y.length 0 0, Nat.zero_testBit]
 constructor
 ·
  rintro (h | ⟨_, h2, h3⟩)
  ·
   cases h
  ·
   exact ⟨by omega, h3⟩
 ·
  rintro ⟨h2, h3⟩; exact .inr ⟨Nat.zero_le _, by omega, h3⟩
theorem Qkx {a b:Nat} (h: ∀ i,a.testBit i=true ↔ b.testBit i=true):a=b:=Nat.eq_of_testBit_eq fun i=>Bool.eq_iff_iff.mpr (h i)
theorem upN_id {p y:List Nat} {b:Nat} (g:Good p) (a:Arr p y b) (n:Nat):IsId p (upN y n):=by
 refine ⟨by have := upN_lt y n; rw [a.len] at this; exact this, fun e he i hi => ?_⟩
 have h1 := (Qe9 y n e).mp he
 have h2 := a.up e i hi
 have h3 := g.bit hi
 exact (Qe9 y n i).mpr ⟨by omega, by omega⟩
def Desc (p:List Nat):List Nat→Nat→Prop
 | [], _ => True
 | u :: z, t => IsId p u ∧ (∀ i, u.testBit i = true → t.testBit i = true) ∧ Desc p z u
def cnt (z:List Nat) (e:Nat):Nat:=(z.filter fun u=> !(u.testBit e)).length
theorem Qfy (u:Nat) (z:List Nat) (e:Nat):cnt (u::z) e=cnt z e+if u.testBit e=true then 0 else 1:=by
 unfold cnt
 rw [List.filter_cons]
 cases u.testBit e <;> simp
theorem cnt_le (z:List Nat) (e:Nat):cnt z e≤z.length:=List.length_filter_le _ _
theorem Qii {p:List Nat} {e:Nat} : ∀ (z:List Nat) {t:Nat},Desc p z t→t.testBit e=false→cnt z e=z.length
 | [], t, _, _ => rfl
 | u :: z, t, h, ht => by
  have hu : u.testBit e = false := by
   cases c : u.testBit e with
   | false => rfl
   | true => rw [h.2.1 e c] at ht; cases ht
  rw [Qfy, Qii z h.2.2 hu, hu]
  simp
def upR (y:List Nat):Nat→List Nat
 | 0 => []
 | n + 1 => upN y n :: upR y n
theorem Qla (y:List Nat): ∀ n,(upR y n).length=n
 | 0 => rfl
 | n + 1 => by rw [upR, List.length_cons, Qla y n]
theorem Qlb (y:List Nat): ∀ n,(upR y n).reverse=(List.range' 0 n).map (upN y)
 | 0 => rfl
 | n + 1 => by rw [upR, List.reverse_cons, Qlb y n, List.range'_concat, List.map_append]; simp
theorem Qni {p y:List Nat} {b:Nat} (g:Good p) (a:Arr p y b): ∀ (n t:Nat),(∀ i,n=0∨((upN y (n - 1)).testBit i=true→t.testBit i=true))→Desc p (upR y n) t
 | 0, t, _ => trivial
 | n + 1, t, h => by
  refine ⟨upN_id g a n, fun i hi => ?_, Qni g a n _ fun i => .inr fun hi => ?_⟩
  ·
   rcases h i with q | q
   ·
    cases q
   ·
    exact q hi
  ·
   have h1 := (Qe9 y _ i).mp hi
   exact (Qe9 y n i).mpr ⟨h1.1, by omega⟩
theorem Qoa {p y:List Nat} {b:Nat} (g:Good p) (a:Arr p y b) (n:Nat):Desc p (upR y n) (full p):=
 Qni g a n _ fun i => .inr fun hi => by
  have h1 := (Qe9 y _ i).mp hi
  rw [Qgz, ← a.len]; exact decide_eq_true h1.1
theorem Qnv (y:List Nat) (e:Nat) (he:e<y.length): ∀ n,cnt (upR y n) e=min n (y.getD e 0)
 | 0 => by rw [upR]; simp [cnt]
 | n + 1 => by
  rw [upR, Qfy, Qnv y e he n]
  by_cases c : (upN y n).testBit e = true
  ·
   rw [if_pos c]
   have := ((Qe9 y n e).mp c).2
   omega
  ·
   rw [if_neg c]
   have : ¬ y.getD e 0 ≤ n := fun q => c ((Qe9 y n e).mpr ⟨he, q⟩)
   omega
def arrD (n:Nat) (z:List Nat):List Nat:=cL n (cnt z)
theorem Qjn {y:List Nat} {i:Nat} (h:y.length≤i):y.getD i 0=0:=by
 rw [List.getD_eq_getElem?_getD, List.getElem?_eq_none h]; rfl
theorem Qm0 {x y:List Nat} (hl:x.length=y.length) (h: ∀ i,i<x.length→x.getD i 0=y.getD i 0):x=y:=by
 refine List.ext_getElem hl fun i h1 h2 => ?_
 have := h i h1
 rw [List.getD_eq_getElem?_getD, List.getD_eq_getElem?_getD, List.getElem?_eq_getElem h1, List.getElem?_eq_getElem h2] at this
 exact this
theorem Qjf {p y:List Nat} {b:Nat} (a:Arr p y b):arrD p.length (upR y b)=y:=by
 refine Qm0 ((Qe2 _ _).trans a.len.symm) fun i hi => ?_
 unfold arrD at hi ⊢
 rw [Qe2] at hi
 rw [Qfm _ hi, Qnv y i (by rw [a.len]; exact hi)]
 have := a.hi i
 omega
theorem Ql7 {p:List Nat} (g:Good p) {z:List Nat} {t:Nat} (h:Desc p z t):Arr p (arrD p.length z) z.length:=by
 have key : ∀ (z : List Nat) {t : Nat}, Desc p z t → ∀ i j, (less p i).testBit j = true → cnt z j ≤ cnt z i := by
  intro z
  induction z with
  | nil => intro t _ i j _; exact Nat.le_refl _
  | cons u z ih =>
   intro t h i j hb
   have := ih h.2.2 i j hb
   rw [Qfy, Qfy]
   by_cases c : u.testBit i = true
   ·
    rw [if_pos c, if_pos (h.1.2 i c j hb)]; exact this
   ·
    rw [if_neg c]; split <;> omega
 refine ⟨Qe2 _ _, fun i => ?_, fun i j hb => ?_⟩
 ·
  by_cases hi : i < p.length
  ·
   unfold arrD; rw [Qfm _ hi]; exact cnt_le _ _
  ·
   unfold arrD; rw [Qjn (by rw [Qe2]; omega)]; exact Nat.zero_le _
 ·
  have hi := g.bit hb
  unfold arrD
  rw [Qfm _ hi.2, Qfm _ (by omega)]
  exact key z h i j hb
theorem Qjz {p:List Nat} (g:Good p): ∀ (z:List Nat) {t:Nat},Desc p z t→upR (arrD p.length z) z.length=z
 | [], t, _ => rfl
 | u :: z, t, h => by
  have ih := Qjz g z h.2.2
  have e1 : upN (arrD p.length (u :: z)) z.length = u := by
   refine Qkx fun i => ?_
   rw [Qe9]
   unfold arrD
   rw [Qe2]
   constructor
   ·
    rintro ⟨hi, hc⟩
    rw [Qfm _ hi, Qfy] at hc
    cases c : u.testBit i with
    | true => rfl
    | false =>
     rw [c, Qii z h.2.2 c, if_neg (by simp)] at hc
     omega
   ·
    intro hi
    have hl := Qe1 h.1.1 hi
    refine ⟨hl, ?_⟩
    rw [Qfm _ hl, Qfy, if_pos hi]
    exact cnt_le _ _
  have e2 : ∀ n, n ≤ z.length → upR (arrD p.length (u :: z)) n = upR (arrD p.length z) n := by
   intro n
   induction n with
   | zero => intro _; rfl
   | succ n ih2 =>
    intro hn
    rw [upR, upR, ih2 (by omega)]
    congr 1
    refine Qkx fun i => ?_
    rw [Qe9, Qe9]
    unfold arrD
    rw [Qe2, Qe2]
    refine and_congr_right fun hi => ?_
    rw [Qfm _ hi, Qfm _ hi, Qfy]
    cases c : u.testBit i with
    | true => simp
    | false =>
     rw [Qii z h.2.2 c]
     simp; omega
  rw [List.length_cons, upR, e1, e2 _ (Nat.le_refl _), ih]
theorem cJ_toI (L:List Nat): ∀ j e,cJ (toI L) j e=cnt (L.take j) e:=by
 intro j e
 unfold cJ cnt toI
 rw [← List.map_take, List.filter_map, List.length_map]
 congr 1
theorem cnt_rev (z:List Nat) (e:Nat):cnt z.reverse e=cnt z e:=by
 unfold cnt
 rw [List.filter_reverse, List.length_reverse]
theorem cL_cJ (n:Nat) (L:List Nat):cL n (cJ (toI L) (toI L).length)=arrD n L.reverse:=by
 refine Qhz fun i _ => ?_
 rw [cJ_toI, toI_len, List.take_length, cnt_rev]
theorem okJ_desc {p:List Nat} (g:Good p) {x:List Int} (h:(List.range' 0 x.length).all (okJ p x)=true): ∃ L,x=toI L∧Desc p L.reverse (full p):=by
 have hx : ∀ j, j < x.length → okJ p x j = true := fun j hj => (List.all_eq_true.mp h) j (List.mem_range'_1.mpr ⟨by omega, by omega⟩)
 have e : x = toI (x.map Int.toNat) := by
  unfold toI
  rw [List.map_map]
  conv => lhs; rw [← List.map_id x]
  refine List.map_congr_left fun a ha => ?_
  obtain ⟨j, hj, rfl⟩ := List.mem_iff_getElem.mp ha
  obtain ⟨t, et, _⟩ := Qik (hx j hj)
  rw [Qer hj] at et
  rw [et]; rfl
 refine ⟨x.map Int.toNat, e, ?_⟩
 generalize hL : x.map Int.toNat = L at e
 subst e
 clear hL
 rw [toI_len] at hx h
 have get : ∀ j (hj : j < L.length), IsId p L[j] ∧ (0 < j → ∀ i, (L.getD (j - 1) 0).testBit i = true → L[j].testBit i = true) := by
  intro j hj
  have h1 := hx j hj
  have hr : rd (toI L) (j : Int) = ((L[j] : Nat) : Int) := by rw [Qek, List.getD_eq_getElem?_getD, List.getElem?_eq_getElem hj]; rfl
  obtain ⟨t, et, ht⟩ := Qik h1
  rw [hr] at et
  have et2 : L[j] = t := by omega
  refine ⟨by rw [et2]; exact ht, fun j0 i hi => ?_⟩
  have hj1 : j - 1 < L.length := by omega
  obtain ⟨s, es, hs⟩ := Qik (hx (j - 1) hj1)
  rw [Qek] at es
  have es2 : L.getD (j - 1) 0 = s := by omega
  unfold okJ at h1
  rw [Bool.and_eq_true, Bool.or_eq_true] at h1
  rcases h1.2 with q | q
  ·
   rw [beq_iff_eq] at q; omega
  ·
   rw [hr, show ((j : Int) - 1) = ((j - 1 : Nat) : Int) by omega, Qek, beq_iff_eq, Qd4 (by rw [es2]; exact g.len63 hs.1) (by rw [et2]; exact g.len63 ht.1)] at q
   exact Qgt.mp (by omega) i hi
 have main : ∀ j, j ≤ L.length → ∀ t, (∀ i, j = 0 ∨ ((L.getD (j - 1) 0).testBit i = true → t.testBit i = true)) → Desc p (L.take j).reverse t := by
  intro j
  induction j with
  | zero => intro _ t _; exact trivial
  | succ j ih =>
   intro hj t ht
   have hj2 : j < L.length := hj
   rw [List.take_succ_eq_append_getElem hj2, List.reverse_append, List.reverse_singleton, List.singleton_append]
   have gj := get j hj2
   refine ⟨gj.1, fun i hi => ?_, ih (by omega) _ fun i => ?_⟩
   ·
    rcases ht i with q | q
    ·
     cases q
    ·
     refine q ?_
     rw [Nat.add_sub_cancel, List.getD_eq_getElem?_getD, List.getElem?_eq_getElem hj2]; exact hi
   ·
    by_cases c : j = 0
    ·
     exact .inl c
    ·
     exact .inr fun hi => gj.2 (by omega) i hi
 have := main L.length (Nat.le_refl _) (full p) fun i => by
  by_cases c : L.length = 0
  ·
   exact .inl c
  ·
   refine .inr fun hi => ?_
   have hq : L.length - 1 < L.length := by omega
   have gj := get _ hq
   rw [List.getD_eq_getElem?_getD, List.getElem?_eq_getElem hq] at hi
   rw [Qgz]; exact decide_eq_true (Qe1 gj.1.1 hi)
 rw [List.take_length] at this
 exact this
theorem desc_okJ {p:List Nat} (g:Good p) {L:List Nat} (hd:Desc p L.reverse (full p)):(List.range' 0 (toI L).length).all (okJ p (toI L))=true:=by
 have main : ∀ (z : List Nat) (t : Nat), Desc p z t → ∀ j (hj : j < z.length), IsId p z[j] ∧ ∀ (hj2 : j + 1 < z.length), ∀ i, z[j + 1].testBit i = true → z[j].testBit i = true := by
  intro z
  induction z with
  | nil => intro t _ j hj; cases hj
  | cons u z ih =>
   intro t h j hj
   cases j with
   | zero =>
    refine ⟨h.1, fun hj2 i hi => ?_⟩
    cases z with
    | nil => simp at hj2
    | cons v z => exact h.2.2.2.1 i hi
   | succ j =>
    have q := ih u h.2.2 j (by simpa using hj)
    exact ⟨q.1, fun hj2 i hi => q.2 (by simpa using hj2) i hi⟩
 have M := main L.reverse _ hd
 have get : ∀ j (hj : j < L.length), IsId p L[j] ∧ (∀ (h0 : 0 < j), ∀ i, L[j - 1].testBit i = true → L[j].testBit i = true) := by
  intro j hj
  have q := M (L.length - 1 - j) (by rw [List.length_reverse]; omega)
  have e : L.reverse[L.length - 1 - j]'(by rw [List.length_reverse]; omega) = L[j] := by
   rw [List.getElem_reverse]; congr 1; omega
  rw [e] at q
  refine ⟨q.1, fun h0 i hi => ?_⟩
  refine q.2 (by rw [List.length_reverse]; omega) i ?_
  have e2 : L.reverse[L.length - 1 - j + 1]'(by rw [List.length_reverse]; omega) = L[j - 1] := by
   rw [List.getElem_reverse]; congr 1; omega
  rw [e2]; exact hi
 rw [toI_len]
 refine List.all_eq_true.mpr fun j hj => ?_
 have hj : j < L.length := by have := List.mem_range'_1.mp hj; omega
 have gj := get j hj
 have hr : ∀ j (hj : j < L.length), rd (toI L) (j : Int) = ((L[j] : Nat) : Int) := fun j hj => by rw [Qek, List.getD_eq_getElem?_getD, List.getElem?_eq_getElem hj]; rfl
 unfold okJ
 rw [hr j hj, Qms g gj.1, Bool.true_and, Bool.or_eq_true]
 by_cases h0 : j = 0
 ·
  exact .inl (by rw [h0]; rfl)
 ·
  refine .inr ?_
  rw [show ((j : Int) - 1) = ((j - 1 : Nat) : Int) by omega, hr (j - 1) (by omega), beq_iff_eq, Qd4 (g.len63 (get (j - 1) (by omega)).1.1) (g.len63 gj.1.1), Qgt.mpr (gj.2 (by omega))]
  rfl
theorem Qm1 {p:List Nat} (g:Good p) (x z:List Nat) (h:x.length<p.length):lowN p (x++z) x.length=lowN p x x.length:=by
 unfold lowN Qc9
 refine Qhj _ _ fun a e he => ?_
 by_cases c : (less p x.length).testBit e = true
 ·
  rw [if_pos c, if_pos c]
  show max a ((x ++ z).getD e 0) = max a (x.getD e 0)
  rw [Qmp x z (g.bit c).1]
 ·
  rw [if_neg c, if_neg c]
theorem Qjr {p:List Nat} (g:Good p) {b:Nat} {y:List Nat} : ∀ (d:Nat) (x:List Nat),x.length+d=p.length→
  (y ∈ allN p b d x ↔ ∃ z, z.length = d ∧ y = x ++ z ∧ ∀ i, x.length ≤ i → i < p.length → lowN p y i ≤ y.getD i 0 ∧ y.getD i 0 ≤ b)
 | 0, x, h => by
  rw [allN, List.mem_singleton]
  constructor
  ·
   intro e; exact ⟨[], rfl, by rw [e, List.append_nil], fun i h1 h2 => by omega⟩
  ·
   rintro ⟨z, hz, e, _⟩
   rw [List.length_eq_zero_iff.mp hz, List.append_nil] at e
   exact e
 | d + 1, x, h => by
  rw [allN, List.mem_flatMap]
  have at' : ∀ (v : Nat) (z : List Nat), (x ++ [v] ++ z).getD x.length 0 = v := fun v z => by
   rw [List.append_assoc, List.getD_eq_getElem?_getD, List.getElem?_append_right (Nat.le_refl _), Nat.sub_self]; rfl
  constructor
  ·
   rintro ⟨v, hv, hy⟩
   have hv := List.mem_range'_1.mp hv
   obtain ⟨z, hz, e, hc⟩ := (Qjr g d (x ++ [v]) (by rw [List.length_append, List.length_singleton]; omega)).mp hy
   refine ⟨v :: z, by rw [List.length_cons, hz], by rw [e, List.append_assoc]; rfl, fun i h1 h2 => ?_⟩
   by_cases q : i = x.length
   ·
    subst q
    subst e
    rw [at', List.append_assoc, Qm1 g x _ h2]
    omega
   ·
    exact hc i (by rw [List.length_append, List.length_singleton]; omega) h2
  ·
   rintro ⟨z, hz, e, hc⟩
   cases z with
   | nil => cases hz
   | cons v z =>
    have e2 : y = x ++ [v] ++ z := by rw [e, List.append_assoc]; rfl
    have q := hc x.length (Nat.le_refl _) (by omega)
    rw [e2, at', List.append_assoc, Qm1 g x _ (by omega)] at q
    refine ⟨v, List.mem_range'_1.mpr (by omega), (Qjr g d (x ++ [v]) (by rw [List.length_append, List.length_singleton]; omega)).mpr ⟨z, by simpa using hz, e2, fun i h1 h2 => hc i (by rw [List.length_append, List.length_singleton] at h1; omega) h2⟩⟩
theorem Qgk {p:List Nat} (g:Good p) {b:Nat} {y:List Nat} :y ∈ allN p b p.length [] ↔ Arr p y b:=by
 rw [Qjr g p.length [] (by simp)]
 constructor
 ·
  rintro ⟨z, hz, e, hc⟩
  rw [List.nil_append] at e
  subst e
  refine ⟨hz, fun i => ?_, fun i j hb => ?_⟩
  ·
   by_cases hi : i < p.length
   ·
    exact (hc i (Nat.zero_le _) hi).2
   ·
    rw [Qjn (by omega)]; exact Nat.zero_le _
  ·
   exact (Qhp g).mp (hc i (Nat.zero_le _) (g.bit hb).2).1 j hb
 ·
  intro a
  exact ⟨y, a.len, rfl, fun i _ _ => ⟨Qkl g a i, a.hi i⟩⟩
theorem Qje {p:List Nat} {b:Nat} : ∀ (d:Nat) (x y:List Nat),y ∈ allN p b d x→ ∃ z,y=x++z
 | 0, x, y, h => by
  rw [allN, List.mem_singleton] at h
  exact ⟨[], by rw [h, List.append_nil]⟩
 | d + 1, x, y, h => by
  rw [allN, List.mem_flatMap] at h
  obtain ⟨v, _, hy⟩ := h
  obtain ⟨z, e⟩ := Qje d _ y hy
  exact ⟨v :: z, by rw [e, List.append_assoc]; rfl⟩
theorem Qj5 {p:List Nat} {b:Nat} : ∀ (d:Nat) (x:List Nat),(allN p b d x).Nodup
 | 0, x => by rw [allN]; exact List.pairwise_singleton _ _
 | d + 1, x => by
  rw [allN]
  refine List.pairwise_flatMap.mpr ⟨fun v _ => Qj5 d _, ?_⟩
  refine List.Pairwise.imp (R := fun a b => a ≠ b) (fun {v1 v2} hne y1 h1 y2 h2 e => ?_) List.nodup_range'
  obtain ⟨z1, e1⟩ := Qje d _ y1 h1
  obtain ⟨z2, e2⟩ := Qje d _ y2 h2
  have q : x ++ [v1] ++ z1 = x ++ [v2] ++ z2 := by rw [← e1, ← e2, e]
  rw [List.append_assoc, List.append_assoc] at q
  have q2 := List.append_cancel_left q
  simp at q2
  exact hne q2.1
def subB (t u:Nat):Bool:=sd u t==0
theorem Qjw {t u:Nat} :subB t u=true ↔ ∀ i,u.testBit i=true→t.testBit i=true:=by unfold subB;rw [beq_iff_eq];exact Qgt
def rcN (L:List Nat):Nat→Nat→List (List Nat)
 | 0, _ => [[]]
 | j + 1, t => (L.filter (subB t)).flatMap fun u => (rcN L j u).map (u :: ·)
theorem Qk2 (p:List Nat): ∀ (j:Nat) (t:Nat) (z:List Nat),z ∈ rcN (idls p) j t ↔ z.length=j∧Desc p z t
 | 0, t, z => by
  rw [rcN, List.mem_singleton]
  constructor
  ·
   rintro rfl; exact ⟨rfl, trivial⟩
  ·
   rintro ⟨h, _⟩; exact List.length_eq_zero_iff.mp h
 | j + 1, t, z => by
  rw [rcN, List.mem_flatMap]
  constructor
  ·
   rintro ⟨u, hu, hz⟩
   rw [List.mem_filter, Qgg, Qjw] at hu
   obtain ⟨w, hw, rfl⟩ := List.mem_map.mp hz
   obtain ⟨h1, h2⟩ := (Qk2 p j u w).mp hw
   exact ⟨by rw [List.length_cons, h1], hu.1, hu.2, h2⟩
  ·
   rintro ⟨h1, h2⟩
   cases z with
   | nil => cases h1
   | cons u z => exact ⟨u, List.mem_filter.mpr ⟨Qgg.mpr h2.1, Qjw.mpr h2.2.1⟩, List.mem_map.mpr ⟨z, (Qk2 p j u z).mpr ⟨by simpa using h1, h2.2.2⟩, rfl⟩⟩
theorem Qlu {L:List Nat} (h:L.Nodup): ∀ (j t:Nat),(rcN L j t).Nodup
 | 0, t => by rw [rcN]; exact List.pairwise_singleton _ _
 | j + 1, t => by
  rw [rcN]
  refine List.pairwise_flatMap.mpr ⟨fun u _ => ?_, ?_⟩
  ·
   refine List.pairwise_map.mpr ((Qlu h j u).imp fun {a b} hne e => hne ?_)
   injection e
  ·
   refine List.Pairwise.imp (R := fun a b => a ≠ b) (fun {v1 v2} hne y1 h1 y2 h2 e => ?_) (List.Pairwise.filter _ h)
   obtain ⟨w1, _, rfl⟩ := List.mem_map.mp h1
   obtain ⟨w2, _, rfl⟩ := List.mem_map.mp h2
   injection e with e1 _
   exact hne e1
theorem Qof {p:List Nat} (g:Good p) (b:Nat):(allN p b p.length []).length=(rcN (idls p) b (full p)).length:=by
 have h1 : ((allN p b p.length []).map fun y => upR y b).Nodup := by
  refine List.pairwise_map.mpr (List.Pairwise.imp_of_mem (fun {x y} hx hy hne e => hne ?_) (Qj5 (p := p) (b := b) p.length []))
  have ax := (Qgk g).mp hx
  have ay := (Qgk g).mp hy
  rw [← Qjf ax, ← Qjf ay, e]
 have h2 := (List.perm_ext_iff_of_nodup h1 (Qlu (Qkg p) b (full p))).mpr fun z => by
  rw [List.mem_map, Qk2]
  constructor
  ·
   rintro ⟨y, hy, rfl⟩
   exact ⟨Qla y b, Qoa g ((Qgk g).mp hy) b⟩
  ·
   rintro ⟨h3, h4⟩
   have a := Ql7 g h4
   rw [h3] at a
   refine ⟨arrD p.length z, (Qgk g).mpr a, ?_⟩
   have := Qjz g z h4
   rw [h3] at this
   exact this
 rw [← h2.length_eq, List.length_map]
theorem Qk4 (L:List Nat): ∀ (j t:Nat),(rcN L j t).length≤L.length ^ j
 | 0, t => Nat.le_refl _
 | j + 1, t => by
  have key : ∀ (l : List Nat), (l.flatMap fun u => (rcN L j u).map (u :: ·)).length ≤ l.length * L.length ^ j := fun l => by
   induction l with
   | nil => exact Nat.zero_le _
   | cons u l ih =>
    have := Qk4 L j u
    rw [List.flatMap_cons, List.length_append, List.length_map, List.length_cons, Nat.succ_mul]
    omega
  rw [rcN, Nat.pow_succ, Nat.mul_comm]
  exact Nat.le_trans (key _) (Nat.mul_le_mul_right _ (List.length_filter_le _ _))
theorem Qjx (L:List Nat) (j t:Nat) (c:Int→Bool) (w:Int→Int): ∀ (l:List Nat),(∀ u ∈ l,c (u:Int)=subB t u)→(∀ u ∈ l,w (u:Int)=(((rcN L j u).length:Nat):Int))→
  sumI c w (toI l) = ((((l.filter (subB t)).flatMap fun u => (rcN L j u).map (u :: ·)).length : Nat) : Int)
 | [], _, _ => rfl
 | u :: l, h1, h2 => by
  have ih := Qjx L j t c w l (fun x hx => h1 x (List.mem_cons_of_mem _ hx)) (fun x hx => h2 x (List.mem_cons_of_mem _ hx))
  show sumI c w ((u : Int) :: toI l) = _
  rw [sumI, ih, h1 u List.mem_cons_self, h2 u List.mem_cons_self, List.filter_cons]
  cases c : subB t u with
  | true => rw [if_pos rfl, if_pos rfl, List.flatMap_cons, List.length_append, List.length_map]; omega
  | false => rw [if_neg (by simp), if_neg (by simp)]; omega
theorem Qoc {p:List Nat} (g:Good p): ∀ (j t:Nat),j≤4→t<2 ^ 63→ways (toI (idls p)) j (t:Int)=(((rcN (idls p) j t).length:Nat):Int)
 | 0, t, _, _ => rfl
 | j + 1, t, hj, ht => by
  have hl := Qg0 g
  have small : ∀ u ∈ idls p, u < 2 ^ 63 := fun u hu => g.len63 (Qgg.mp hu).1
  rw [ways, Qkc, Qjx (idls p) j t (okI (t : Int)) (ways (toI (idls p)) j) (idls p) (fun u hu => ?_) (fun u hu => Qoc g j u (by omega) (small u hu))]
  ·
   have h1 := Qk4 (idls p) (j + 1) t
   have h2 : (idls p).length ^ (j + 1) ≤ 1024 ^ 5 := Nat.le_trans (Nat.pow_le_pow_left hl _) (Nat.pow_le_pow_right (by omega) (by omega))
   rw [rcN] at h1 ⊢
   exact Qc1 (by omega) (by omega)
  ·
   unfold okI subB
   rw [Qd4 (small u hu) ht, Bool.eq_iff_iff, decide_eq_true_iff, beq_iff_eq]
   omega
theorem full_sub {p:List Nat} {u:Nat} (h:IsId p u):subB (full p) u=true:=Qjw.mpr fun i hi=>by rw [Qgz];exact decide_eq_true (Qe1 h.1 hi)
theorem Qow {p:List Nat} (g:Good p) {b:Nat} (hb:b≤4):Qfn (toI (idls p)) b=(((allN p b p.length []).length:Nat):Int):=by
 have hl := Qg0 g
 rw [Qof g b]
 unfold Qfn
 by_cases h0 : b = 0
 ·
  subst h0; rfl
 ·
  obtain ⟨n, rfl⟩ : ∃ n, b = n + 1 := ⟨b - 1, by omega⟩
  rw [if_neg h0, Nat.add_sub_cancel, Qjx (idls p) n (full p) (fun _ => true) _ (idls p) (fun u hu => (full_sub (Qgg.mp hu)).symm) (fun u hu => Qoc g n u (by omega) (g.len63 (Qgg.mp hu).1))]
  have h1 := Qk4 (idls p) (n + 1) (full p)
  have h2 : (idls p).length ^ (n + 1) ≤ 1024 ^ 5 := Nat.le_trans (Nat.pow_le_pow_left hl _) (Nat.pow_le_pow_right (by omega) (by omega))
  rw [rcN] at h1 ⊢
  exact Qc1 (by omega) (by omega)
theorem Qox {p:List Nat} (g:Good p):Qfn (toI (idls p)) 1=(((idls p).length:Nat):Int):=by
 have hl := Qg0 g
 unfold Qfn
 rw [if_neg (by omega)]
 have key : ∀ l : List Nat, sumI (fun _ => true) (ways (toI (idls p)) (1 - 1)) (toI l) = ((l.length : Nat) : Int) := by
  intro l
  induction l with
  | nil => rfl
  | cons u l ih =>
   show sumI _ _ ((u : Int) :: toI l) = _
   rw [sumI, ih, if_pos rfl, List.length_cons]
   show (1 : Int) + _ = _
   omega
 rw [key]
 exact Qc1 (by omega) (by omega)
theorem Qfa (n s b:Nat):(Qd6 n s b).length=n:=by simp [Qd6]
theorem Qd9 {n s b i:Nat} (h:i<n):(Qd6 n s b).getD i 0=if s.testBit i=true then 0 else b:=by
 unfold Qd6
 rw [List.getD_eq_getElem?_getD, List.getElem?_map, List.getElem?_range' (by omega)]
 simp
theorem Qlg {p:List Nat} (g:Good p) {s b:Nat} (h:IsId p s):Arr p (Qd6 p.length s b) b:=by
 refine ⟨Qfa _ _ _, fun i => ?_, fun i j hb => ?_⟩
 ·
  by_cases hi : i < p.length
  ·
   rw [Qd9 hi]; split <;> omega
  ·
   rw [Qjn (by rw [Qfa]; omega)]; exact Nat.zero_le _
 ·
  have hi := g.bit hb
  rw [Qd9 hi.2, Qd9 (by omega)]
  by_cases c : s.testBit i = true
  ·
   rw [if_pos c, if_pos (h.2 i c j hb)]; exact Nat.le_refl _
  ·
   rw [if_neg c]; split <;> omega
theorem arrOf_tg {p:List Nat} (g:Good p) {s b e:Nat} (h:IsId p s) (he:e<p.length):tgN p b (Qd6 p.length s b) e=Qd6 p.length (tg p s e) b:=by
 have a := Qlg g (b := b) h
 refine Qm0 (by rw [Qk8, Qfa, Qfa]) fun i hi => ?_
 rw [Qk8, Qfa] at hi
 rw [Qd9 hi, Qi1]
 by_cases q : i = e
 ·
  subst q
  rw [if_pos ⟨rfl, by rw [Qfa]; exact hi⟩, Qd9 hi]
  have h1 := Qkl g a i
  have h2 := Qk1 g a i
  have h3 := Qij (y := Qd6 p.length s b) g b i
  rw [Qd9 hi] at h1 h2
  have ht := tg_eq g h he
  cases c : s.testBit i with
  | true =>
   rw [c, if_pos rfl] at h1 h2
   rw [if_pos rfl]
   by_cases k : ∃ f, s.testBit f = true ∧ (less p f).testBit i = true
   ·
    rw [if_pos (ht.mpr (.inl ⟨c, k⟩))]
    obtain ⟨f, hf, hb⟩ := k
    have h4 : Qfq p (Qd6 p.length s b) b i ≤ 0 := by
     have := ((Qg1 g (y := Qd6 p.length s b) (b := b) (e := i)).mp (Nat.le_refl _)).2 f hb
     rw [Qd9 (g.bit hb).2, if_pos hf] at this
     exact this
    omega
   ·
    rw [if_neg (fun z => by
     rcases ht.mp z with w | w
     ·
      exact k w.2
     ·
      rw [c] at w; cases w.1)]
    have h4 : b ≤ Qfq p (Qd6 p.length s b) b i := (Qg1 g).mpr ⟨Nat.le_refl _, fun f hb => by
     rw [Qd9 (g.bit hb).2, if_neg (fun w => k ⟨f, w, hb⟩)]; exact Nat.le_refl _⟩
    omega
  | false =>
   rw [c, if_neg (by simp)] at h1 h2
   rw [if_neg (by simp)]
   by_cases k : ∀ f, (less p i).testBit f = true → s.testBit f = true
   ·
    rw [if_pos (ht.mpr (.inr ⟨c, k⟩))]
    have h4 : lowN p (Qd6 p.length s b) i ≤ 0 := (Qhp g).mpr fun f hb => by
     rw [Qd9 (by have := g.bit hb; omega), if_pos (k f hb)]; exact Nat.le_refl _
    omega
   ·
    rw [if_neg (fun z => by
     rcases ht.mp z with w | w
     ·
      rw [c] at w; cases w.1
     ·
      exact k w.2)]
    have h4 : b ≤ lowN p (Qd6 p.length s b) i := by
     apply Classical.byContradiction
     intro hn
     refine k fun f hb => ?_
     have h5 := (Qhp g (y := Qd6 p.length s b) (e := i)).mp (Nat.le_refl _) f hb
     rw [Qd9 (by have := g.bit hb; omega)] at h5
     apply Classical.byContradiction
     intro w
     rw [if_neg w] at h5
     omega
    omega
 ·
  rw [if_neg (fun z => q z.1), Qd9 hi, tg_ne (fun z => q z.symm)]
theorem Qj7 {p:List Nat} (g:Good p) {b:Nat} : ∀ (w:List Nat) (s:Nat),IsId p s→(∀ e ∈ w,e<p.length)→w.foldl (tgN p b) (Qd6 p.length s b)=Qd6 p.length (w.foldl (tg p) s) b
 | [], s, _, _ => rfl
 | e :: w, s, h, hw => by
  have he := hw e List.mem_cons_self
  rw [List.foldl_cons, List.foldl_cons, arrOf_tg g h he]
  exact Qj7 g w _ (tg_id h he) fun x hx => hw x (List.mem_cons_of_mem _ hx)
theorem Qop {p:List Nat} (g:Good p) {s b:Nat} (h:IsId p s):rowN p b (Qd6 p.length s b)=Qd6 p.length (row p s) b:=by
 unfold rowN
 rw [Qj7 g _ _ h (fun e he => by simpa using he), fold_row g h]
theorem arrOf_up {p:List Nat} (g:Good p) {s b:Nat} (h:IsId p s) (hb:0<b):upN (Qd6 p.length s b) 0=s:=by
 refine Qkx fun i => ?_
 rw [Qe9, Qfa]
 constructor
 ·
  rintro ⟨hi, hc⟩
  rw [Qd9 hi] at hc
  apply Classical.byContradiction
  intro w
  rw [if_neg w] at hc
  omega
 ·
  intro hi
  have hl := Qe1 h.1 hi
  exact ⟨hl, by rw [Qd9 hl, if_pos hi]; exact Nat.le_refl _⟩
theorem Qov {x y:Int} {a b:List Int} (e:x=y):decide (x::a=y::b)=decide (a=b):=
 decide_eq_decide.mpr ⟨fun h => (List.cons.inj h).2, fun h => by rw [e, h]⟩
theorem Qm6 (a b:List Int) (hl:a.length≤1000000) (hab:a.length=b.length): ∀ (d i:Nat),i+d=a.length→Ev (fun k=>Qbu.l0 k a b (a.length:Int) (i:Int)) (decide (a.drop i=b.drop i))
 | 0, i, h => by
  refine Ev.step (fun _ => Qbu.l0.eq_2 ..) (Q2 (by omega) ?_)
  rw [List.drop_of_length_le (by omega), List.drop_of_length_le (by omega)]
  exact Ev.now _
 | d + 1, i, h => by
  refine Ev.step (fun _ => Qbu.l0.eq_2 ..) (Qk (by omega) (Qk (by omega) (Qk (by omega) (Qk (by omega) ?_))))
  rw [Qbv (by omega), Qer (by omega : i < a.length), Qer (by omega : i < b.length), List.drop_eq_getElem_cons (by omega : i < a.length), List.drop_eq_getElem_cons (by omega : i < b.length)]
  refine Qcg (fun e => ?_) (fun e => ?_)
  ·
   rw [Qov e]; exact Qm6 a b hl hab d (i + 1) (by omega)
  ·
   rw [decide_eq_false fun h => e (List.cons.inj h).1]; exact Ev.now false
theorem nSame_ev (a b:List Int) (hl:a.length≤1000000):Ev (fun k=>Qbu.f k a b) (decide (a=b)):=by
 refine Qcg (fun e => ?_) (fun e => ?_)
 ·
  have := Qm6 a b hl (by omega) a.length 0 (by omega)
  rw [List.drop_zero, List.drop_zero] at this
  exact this
 ·
  rw [decide_eq_false fun h => e (by rw [h])]; exact Ev.now false
theorem Qff (a:List Int) (hl:a.length≤1000000):Ev (fun k=>Qbu.f k a a) true:=by simpa using nSame_ev a a hl
theorem Qm5 (r:List (List Int)) (hr:Qj3 r): ∀ (d i:Nat),i+d=r.length→Ev (fun k=>Qct.l0 k r r (r.length:Int) (i:Int)) true
 | 0, i, h => Ev.step (fun _ => Qct.l0.eq_2 ..) (Q2 (by omega) (Ev.now _))
 | d + 1, i, h => by
  have hi : i < r.length := by omega
  have hl := hr.1
  have hx := hr.2 _ (List.getElem_mem hi)
  refine Ev.step (fun _ => Qct.l0.eq_2 ..) (Qk (by omega) (Qk (by omega) (Qk (by omega) (Qk (by omega) ?_))))
  rw [Qnz hi, Qbv (by omega)]
  exact Ev.bind (Qff _ (by omega)) (Qk rfl (Qm5 r hr d (i + 1) (by omega)))
theorem Qoj (r:List (List Int)) (hr:Qj3 r):Ev (fun k=>Qct.f k r r) true:=Qk rfl (Qm5 r hr r.length 0 (Nat.zero_add _))
theorem big_eq (a b:List Int): ∃ v,Qfp.f a b=some v∧(v=false→a.length≤1048576∧b.length≤1048576):=by
 unfold Qfp.f
 by_cases h : (a.length : Int) > 1048576
 ·
  rw [if_pos h]; exact ⟨true, rfl, fun e => by cases e⟩
 ·
  rw [if_neg h]
  refine ⟨_, rfl, fun e => ?_⟩
  rw [decide_eq_false_iff_not, Qc1 (by omega) (by omega)] at e
  omega
structure Cu (c : List Int) (t : Int) (m : Nat) : Prop where
 len : c.length ≤ 1048576
 byt : ∀ x ∈ c, 0 ≤ x ∧ x ≤ 255
 lo : 0 ≤ t
 hi : t ≤ (m : Int)
theorem Cu.mono {c:List Int} {t:Int} {m n:Nat} (h:Cu c t m) (hm:m≤n):Cu c t n:=⟨h.len,h.byt,h.lo,by have:=h.hi;omega⟩
theorem Qmk {c:List Int} (hl:c.length≤1048576) (hb: ∀ x ∈ c,(Lit.int .u8 x).wf=true):Cu c 0 0:=
 ⟨hl, fun x hx => by
  have h := hb x hx
  simp only [Lit.wf, Bool.and_eq_true, decide_eq_true_eq] at h
  have e0 : IntKind.u8.min = 0 := by decide
  have e1 : IntKind.u8.max = 255 := by decide
  omega, Int.le_refl _, Int.le_refl _⟩
theorem and255 (a:Int): ∃ v:Nat,v≤255∧Go.bits .and .u64 a 255=(v:Int):=by
 refine ⟨(BitVec.ofInt IntKind.u64.bits a).toNat &&& (BitVec.ofInt IntKind.u64.bits 255).toNat, ?_, ?_⟩
 ·
  exact Nat.le_trans Nat.and_le_right (by decide)
 ·
  simp only [Go.bits, BitVec.toNat_and]
  have h : (BitVec.ofInt IntKind.u64.bits a).toNat &&& (BitVec.ofInt IntKind.u64.bits 255).toNat ≤ 255 := Nat.le_trans Nat.and_le_right (by decide)
  rw [show ∀ n : Int, IntKind.u64.wrap n = n % 18446744073709551616 from fun n => by simp [IntKind.wrap, IntKind.bits, IntKind.signed]]
  omega
theorem Qny {c:List Int} {t s:Int} {m:Nat} (h:Cu c t m) (hm:m≤1000000): ∃ v t' s',Qdn.f c t s=some (v,t',s')∧0≤v∧v≤255∧Cu c t' (m+1):=by
 have hl := h.len
 have h0 := h.lo
 have h1 := h.hi
 have hc : Cu c (wrap64 (t + 1)) (m + 1) := ⟨h.len, h.byt, by rw [Qc1 (by omega) (by omega)]; omega, by rw [Qc1 (by omega) (by omega)]; omega⟩
 have wb : ∀ a : Int, 0 ≤ wrap64 (Go.bits .and .u64 a 255) ∧ wrap64 (Go.bits .and .u64 a 255) ≤ 255 := fun a => by
  obtain ⟨v, hv, e⟩ := and255 a
  rw [e, Qc1 (by omega) (by omega)]; omega
 unfold Qdn.f
 by_cases c1 : t < (c.length : Int)
 ·
  obtain ⟨i, rfl⟩ : ∃ i : Nat, t = (i : Int) := ⟨t.toNat, by omega⟩
  have hb := h.byt _ (List.getElem_mem (show i < c.length by omega))
  rw [if_pos c1, if_pos h0, Qer (by omega)]
  by_cases c2 : wrap64 ((i : Int) + 1) ≤ (c.length : Int)
  ·
   rw [if_pos c2]
   exact ⟨_, _, _, rfl, by rw [Qc1 (by omega) (by omega)]; omega, by rw [Qc1 (by omega) (by omega)]; omega, hc⟩
  ·
   rw [if_neg c2]
   exact ⟨_, _, _, rfl, (wb _).1, (wb _).2, hc⟩
 ·
  rw [if_neg c1]
  by_cases c2 : wrap64 (t + 1) ≤ (c.length : Int)
  ·
   rw [if_pos c2]
   exact ⟨_, _, _, rfl, by omega, by omega, hc⟩
  ·
   rw [if_neg c2]
   exact ⟨_, _, _, rfl, (wb _).1, (wb _).2, hc⟩
theorem Qn7 {a n:Int} (ha:0≤a) (hn:0<n):0≤Int.tmod a n∧Int.tmod a n<n:=by
 rw [Int.tmod_eq_emod_of_nonneg ha]
 exact ⟨Int.emod_nonneg _ (by omega), Int.emod_lt_of_pos _ hn⟩
theorem Qd1 {c:List Int} {t s:Int} {m:Nat} (n:Int) (h:Cu c t m) (hm:m≤900000): ∃ v t' s',Qm.f c t s n=some (v,t',s')∧0≤v∧(v<n∨v=0)∧Cu c t' (m+2):=by
 unfold Qm.f
 by_cases c1 : n ≤ 1
 ·
  rw [if_pos c1]
  exact ⟨_, _, _, rfl, Int.le_refl _, .inr rfl, h.mono (by omega)⟩
 ·
  rw [if_neg c1]
  obtain ⟨v, t', s', e, v0, v1, h'⟩ := Qny (s := s) h (by omega)
  rw [e, Option.bind_some]
  by_cases c2 : n > 200
  ·
   obtain ⟨v2, t2, s2, e2, a0, a1, h2⟩ := Qny (s := s') h' (by omega)
   dsimp only
   rw [if_pos c2, e2, Option.bind_some, if_neg (by omega)]
   dsimp only
   have w : wrap64 (wrap64 (v * 256) + v2) = v * 256 + v2 := by rw [Qc1 (x := v * 256) (by omega) (by omega), Qc1 (by omega) (by omega)]
   have b := Qn7 (a := v * 256 + v2) (n := n) (by omega) (by omega)
   refine ⟨_, _, _, rfl, ?_, .inl ?_, h2⟩
   ·
    show 0 ≤ Int.tmod (wrap64 (wrap64 (v * 256) + v2)) n
    rw [w]; exact b.1
   ·
    show Int.tmod (wrap64 (wrap64 (v * 256) + v2)) n < n
    rw [w]; exact b.2
  ·
   dsimp only
   rw [if_neg c2, if_neg (by omega)]
   have b := Qn7 (a := v) (n := n) v0 (by omega)
   exact ⟨_, _, _, rfl, b.1, .inl b.2, h'.mono (by omega)⟩
theorem one_ok {c:List Int} {t s:Int} {m:Nat} (n:Int) (h:Cu c t m) (hm:m≤900000): ∃ v t' s',Qdl.f c t s n=some (v,t',s')∧Cu c t' (m+2):=by
 obtain ⟨v, t', s', e, _, _, h'⟩ := Qd1 (s := s) n h hm
 unfold Qdl.f
 rw [e, Option.bind_some]
 exact ⟨_, _, _, rfl, h'⟩
theorem Qe6 {c:List Int} {t s:Int} {m:Nat} (l:List Int) (hl:0<l.length) (h:Cu c t m) (hm:m≤900000): ∃ v t' s',Qbh.f c t s l=some (v,t',s')∧v ∈ l∧Cu c t' (m+2):=by
 obtain ⟨v, t', s', e, v0, v1, h'⟩ := Qd1 (s := s) (l.length : Int) h hm
 obtain ⟨i, rfl⟩ : ∃ i : Nat, v = (i : Int) := ⟨v.toNat, by omega⟩
 unfold Qbh.f
 rw [e, Option.bind_some]
 have hi : i < l.length := by omega
 dsimp only
 rw [if_pos (by omega), if_pos (by omega), Qer hi]
 exact ⟨_, _, _, rfl, List.getElem_mem hi, h'⟩
def Qiu (n:Nat) (x:List (List Int)):Prop:= ∀ c ∈ x,∃ i j:Int,c= [i,j] ∧0≤i∧i<(n:Int)
theorem Qip {n:Nat} (hn:n≤1000) (x:List (List Int)) (hx:Qiu n x) (hl:x.length≤100000) (i:Nat) (hi:i<n) (c: ∀ F:List Int,F.length=n→ ∃ R:List Int,R.length=n∧Ev (fun k=>Qbi.l0 k (n:Int) x ((i+1:Nat):Int) F) R): ∀ (d q:Nat) (F:List Int),q+d=x.length→F.length=n→
  ∃ R : List Int, R.length = n ∧ Ev (fun k => Qbi.l1 k (n : Int) x (i : Int) x (x.length : Int) (q : Int) F) R
 | 0, q, F, h, hF => by
  obtain ⟨R, hR, e⟩ := c F hF
  refine ⟨R, hR, Ev.step (fun _ => Qbi.l1.eq_2 ..) (Q2 (by omega) ?_)⟩
  rw [Qbv (by omega)]; exact e
 | d + 1, q, F, h, hF => by
  have hq : q < x.length := by omega
  obtain ⟨a, b, e, ha, hb⟩ := hx _ (List.getElem_mem hq)
  have er : Qce x (q : Int) = [a, b] := by unfold Qce; simp [List.getD_eq_getElem?_getD, hq, e]
  have e0 : rd [a, b] 0 = a := rfl
  have e1 : rd [a, b] 1 = b := rfl
  have el : (([a, b] : List Int).length : Int) = 2 := rfl
  by_cases cb : b = (i : Int)
  ·
   have ih := Qip hn x hx hl i hi c d (q + 1)
   obtain ⟨R, hR, ev⟩ := ih (F.set i (Go.bits .or .i64 (rd F (i : Int)) (Go.bits .or .i64 (shl .i64 1 a) (rd F a)))) (by omega) (by rw [List.length_set]; exact hF)
   refine ⟨R, hR, Ev.step (fun _ => Qbi.l1.eq_2 ..) (Qk (by omega) (Qk (by omega) (Qk (by omega) ?_)))⟩
   rw [er, e0, e1, el]
   refine Qk (by omega) (Qk cb (Qk (by omega) (Qk (by omega) (Qk (by omega) (Qk ha (Qk (by omega) ?_))))))
   rw [Qbv (by omega), Int.toNat_natCast]
   exact ev
  ·
   have ih := Qip hn x hx hl i hi c d (q + 1)
   obtain ⟨R, hR, ev⟩ := ih F (by omega) hF
   refine ⟨R, hR, Ev.step (fun _ => Qbi.l1.eq_2 ..) (Qk (by omega) (Qk (by omega) (Qk (by omega) ?_)))⟩
   rw [er, e1, el]
   refine Qk (by omega) (Q2 cb ?_)
   rw [Qbv (by omega)]
   exact ev
theorem Qlp {n:Nat} (hn:n≤1000) (x:List (List Int)) (hx:Qiu n x) (hl:x.length≤100000): ∀ (d i:Nat),i+d=n→ ∀ F:List Int,F.length=n→ ∃ R:List Int,R.length=n∧Ev (fun k=>Qbi.l0 k (n:Int) x (i:Int) F) R
 | 0, i, h, F, hF => ⟨F, hF, Ev.step (fun _ => Qbi.l0.eq_2 ..) (Q2 (by omega) (Ev.now _))⟩
 | d + 1, i, h, F, hF => by
  obtain ⟨R, hR, e⟩ := Qip hn x hx hl i (by omega) (Qlp hn x hx hl d (i + 1) (by omega)) x.length 0 F (by omega) hF
  exact ⟨R, hR, Ev.step (fun _ => Qbi.l0.eq_2 ..) (Qk (by omega) e)⟩
theorem Qlq {n:Nat} (hn:n≤1000) (x:List (List Int)) (hx:Qiu n x) (hl:x.length≤100000): ∃ R:List Int,R.length=n∧Ev (fun k=>Qbi.f k (n:Int) x) R:=by
 obtain ⟨R, hR, e⟩ := Qlp hn x hx hl n 0 (by omega) (List.replicate n 0) (by simp)
 refine ⟨R, hR, Qk (by omega) (Qk (by omega) ?_)⟩
 rw [Int.toNat_natCast]
 exact e
def rectB (a b:Nat):Bool:=match Q8.f 400 (a:Int) (b:Int) with
 | some r => r.length == a * b
 | none => false
theorem rect_all:((List.range' 1 2).all fun a=>(List.range' 1 5).all fun b=>rectB a b)=true:=by decide+kernel
theorem rect_ok {a b:Nat} (h1:1≤a) (h2:a≤2) (h3:1≤b) (h4:b≤5): ∃ R:List Int,R.length=a*b∧Ev (fun k=>Q8.f k (a:Int) (b:Int)) R:=by
 have h := rect_all
 rw [List.all_eq_true] at h
 have h := h a (by rw [List.mem_range'_1]; omega)
 rw [List.all_eq_true] at h
 have h := h b (by rw [List.mem_range'_1]; omega)
 unfold rectB at h
 split at h
 ·
  rename_i r e
  exact ⟨r, beq_iff_eq.mp h, Ev.of (Q8.mono _ _) e⟩
 ·
  cases h
def stairB (a:Nat):Bool:=match Qr.f 60 (a:Int) with
 | some r => decide (1 ≤ r.1.length) && decide (r.1.length ≤ 10) && r.2
 | none => false
theorem Qo6:((List.range' 1 2).all stairB)=true:=by decide+kernel
theorem stair_ok {a:Nat} (h1:1≤a) (h2:a≤2): ∃ R:List Int × Bool,1≤R.1.length∧R.1.length≤10∧Ev (fun k=>Qr.f k (a:Int)) R:=by
 have h := Qo6
 rw [List.all_eq_true] at h
 have h := h a (by rw [List.mem_range'_1]; omega)
 unfold stairB at h
 split at h
 ·
  rename_i r e
  rw [Bool.and_eq_true, Bool.and_eq_true, decide_eq_true_eq, decide_eq_true_eq] at h
  exact ⟨r, h.1.1, h.1.2, Ev.of (Qr.mono _) e⟩
 ·
  cases h
def fenceB (a:Nat):Bool:=match Qcf.f 400 (a:Int) with
 | some r => r.1.length == a
 | none => false
theorem Qoy:((List.range' 1 10).all fenceB)=true:=by decide+kernel
theorem fence_ok {a:Nat} (h1:1≤a) (h2:a≤10): ∃ R:List Int × Bool,R.1.length=a∧Ev (fun k=>Qcf.f k (a:Int)) R:=by
 have h := Qoy
 rw [List.all_eq_true] at h
 have h := h a (by rw [List.mem_range'_1]; omega)
 unfold fenceB at h
 split at h
 ·
  rename_i r e
  exact ⟨r, beq_iff_eq.mp h, Ev.of (Qcf.mono _) e⟩
 ·
  cases h
theorem Qn6 {c:List Int} {n:Nat} (hn:1≤n) (hn2:n≤10): ∀ (d:Nat) (x:List (List Int)) (t s:Int) (m:Nat),Cu c t m→m+4*d≤100000→Qiu n x→x.length+d≤1000→
  ∃ (R : List Int) (t' s' : Int), R.length = n ∧ Cu c t' (m + 4 * d) ∧ Ev (fun k => Qp.l0 k (n : Int) x (d : Int) c t s) (R, t', s')
 | 0, x, t, s, m, h, hm, hx, hl => by
  obtain ⟨R, hR, e⟩ := Qlq (n := n) (by omega) x hx (by omega)
  refine ⟨R, t, s, hR, h.mono (by omega), Ev.step (fun _ => Qp.l0.eq_2 ..) (Q2 (by omega) (Ev.step (fun _ => Qp.j1.eq_2 ..) (Q2 (by simp) ?_)))⟩
  exact Ev.bind e (Ev.now _)
 | d + 1, x, t, s, m, h, hm, hx, hl => by
  by_cases c1 : n ≤ 1
  ·
   obtain ⟨R, hR, e⟩ := Qlq (n := n) (by omega) x hx (by omega)
   refine ⟨R, t, s, hR, h.mono (by omega), Ev.step (fun _ => Qp.l0.eq_2 ..) (Qk (by omega) (Ev.step (fun _ => Qp.j1.eq_2 ..) (Q2 (by rw [decide_eq_true_eq]; omega) ?_)))⟩
   exact Ev.bind e (Ev.now _)
  ·
   obtain ⟨v, t1, s1, e1, v0, v1, h1⟩ := Qd1 (s := s) (wrap64 ((n : Int) - 1)) h (by omega)
   obtain ⟨v2, t2, s2, e2, w0, w1, h2⟩ := Qd1 (s := s1) (wrap64 (wrap64 ((n : Int) - 1) - v)) h1 (by omega)
   rw [Qc1 (x := (n : Int) - 1) (by omega) (by omega)] at v1
   obtain ⟨R, t3, s3, hR, h3, e3⟩ := Qn6 hn hn2 d (x ++ [[v, wrap64 (wrap64 (v + 1) + v2)]]) t2 s2 (m + 4) (h2.mono (by omega)) (by omega) (fun z hz => by
    rcases List.mem_append.mp hz with hz | hz
    ·
     exact hx z hz
    ·
     rw [List.mem_singleton] at hz
     exact ⟨v, _, hz, v0, by omega⟩) (by rw [List.length_append, List.length_singleton]; omega)
   refine ⟨R, t3, s3, hR, h3.mono (by omega), Ev.step (fun _ => Qp.l0.eq_2 ..) (Qk (by omega) (Ev.step (fun _ => Qp.j1.eq_2 ..) (Qk (by rw [decide_eq_true_eq]; omega) ?_)))⟩
   refine Q5 e1 (Q5 e2 (Qk (by omega) ?_))
   rw [show wrap64 (((d + 1 : Nat) : Int) - 1) = (d : Int) by rw [Qc1 (by omega) (by omega)]; omega]
   exact e3
theorem most_eq (a:Nat) (ha:a≤10):Qc8.f 1 (wrap64 (Int.tdiv (a:Int) 2))=some ((max 1 (a / 2):Nat):Int):=by
 have e : wrap64 (Int.tdiv (a : Int) 2) = ((a / 2 : Nat) : Int) := by
  rw [Int.tdiv_eq_ediv_of_nonneg (by omega), Qc1 (by omega) (by omega)]; omega
 rw [e]; unfold Qc8.f; split <;> (congr 1; omega)
theorem Qg2 (n:Nat) (h:n≤1000):wrap64 (1+(n:Int))=((1+n:Nat):Int):=by rw [Qc1 (by omega) (by omega)];omega
def Qj4 (c:List Int) (m:Nat) (f:Nat→Option (List Int × Int × Int)):Prop:= ∃ (R:List Int) (t' s':Int),1≤R.length∧R.length≤10∧Cu c t' (m+200)∧Ev f (R,t',s')
theorem sure_0 {c:List Int} {t s:Int} {m a:Nat} (ha:1≤a) (ha2:a≤10) (h:Cu c t (m+2)) (hm:m≤10000):
  Qj4 c m (fun k => (Qm.f c t s 2).bind fun bt176 => (Qc8.f 1 (wrap64 (Int.tdiv (a : Int) 2))).bind fun t179 => (Qm.f c bt176.2.1 bt176.2.2 t179).bind fun bt180 => (Q8.f k (wrap64 (1 + bt176.1)) (wrap64 (1 + bt180.1))).bind fun t183 => some (t183, bt180.2.1, bt180.2.2)) := by
 obtain ⟨w, t2, s2, e2, w0, w1, k2⟩ := Qd1 (s := s) 2 h (by omega)
 obtain ⟨wn, rfl⟩ : ∃ n : Nat, w = (n : Int) := ⟨w.toNat, by omega⟩
 obtain ⟨u, t3, s3, e3, u0, u1, k3⟩ := Qd1 (s := s2) ((max 1 (a / 2) : Nat) : Int) k2 (by omega)
 obtain ⟨un, rfl⟩ : ∃ n : Nat, u = (n : Int) := ⟨u.toNat, by omega⟩
 have hw : 1 + wn ≤ 2 := by omega
 have hu : 1 + un ≤ 5 := by omega
 obtain ⟨R, hR, e4⟩ := rect_ok (a := 1 + wn) (b := 1 + un) (Nat.le_add_right _ _) hw (Nat.le_add_right _ _) hu
 have hl : R.length ≤ 10 := by rw [hR]; exact Nat.mul_le_mul hw hu
 have hl0 : 1 ≤ R.length := by rw [hR]; exact Nat.mul_le_mul (Nat.le_add_right 1 wn) (Nat.le_add_right 1 un)
 refine ⟨R, t3, s3, hl0, hl, k3.mono (by omega), Q5 e2 (Q5 (most_eq a ha2) (Q5 e3 ?_))⟩
 dsimp only
 rw [Qg2 wn (by omega), Qg2 un (by omega)]
 exact Ev.bind e4 (Ev.now _)
theorem sure_1 {c:List Int} {t s:Int} {m:Nat} (h:Cu c t (m+2)) (hm:m≤10000):
  Qj4 c m (fun k => (Qm.f c t s 2).bind fun bt186 => (Qr.f k (wrap64 (1 + bt186.1))).bind fun bt189 => some (bt189.1, bt186.2.1, bt186.2.2)) := by
 obtain ⟨w, t2, s2, e2, w0, w1, k2⟩ := Qd1 (s := s) 2 h (by omega)
 obtain ⟨wn, rfl⟩ : ∃ n : Nat, w = (n : Int) := ⟨w.toNat, by omega⟩
 obtain ⟨R, hR, hR2, e4⟩ := stair_ok (a := 1 + wn) (by omega) (by omega)
 refine ⟨R.1, t2, s2, hR, hR2, k2.mono (by omega), Q5 e2 ?_⟩
 dsimp only
 rw [Qg2 wn (by omega)]
 exact Ev.bind e4 (Ev.now _)
theorem sure_2 {c:List Int} {t s:Int} {m a:Nat} (ha:1≤a) (ha2:a≤10) (h:Cu c t (m+2)) (hm:m≤10000):
  Qj4 c m (fun k => (Qm.f c t s (a : Int)).bind fun bt194 => (Qcf.f k (wrap64 (1 + bt194.1))).bind fun bt197 => some (bt197.1, bt194.2.1, bt194.2.2)) := by
 obtain ⟨w, t2, s2, e2, w0, w1, k2⟩ := Qd1 (s := s) (a : Int) h (by omega)
 obtain ⟨wn, rfl⟩ : ∃ n : Nat, w = (n : Int) := ⟨w.toNat, by omega⟩
 obtain ⟨R, hR, e4⟩ := fence_ok (a := 1 + wn) (by omega) (by omega)
 refine ⟨R.1, t2, s2, by omega, by omega, k2.mono (by omega), Q5 e2 ?_⟩
 dsimp only
 rw [Qg2 wn (by omega)]
 exact Ev.bind e4 (Ev.now _)
theorem Qo7 (n:Nat) (h:n≤1000):wrap64 (2*((n:Nat):Int))=((2*n:Nat):Int):=by rw [Qc1 (by omega) (by omega)];omega
theorem sure_3 {c:List Int} {t s:Int} {m a:Nat} (ha:1≤a) (ha2:a≤10) (h:Cu c t (m+2)) (hm:m≤10000):
  Qj4 c m (fun k => (Qm.f c t s (a : Int)).bind fun bt202 => (Qm.f c bt202.2.1 bt202.2.2 (wrap64 (2 * (wrap64 (1 + bt202.1))))).bind fun bt205 => Qp.l0 k (wrap64 (1 + bt202.1)) ([] : List (List Int)) bt205.1 c bt205.2.1 bt205.2.2) := by
 obtain ⟨w, t2, s2, e2, w0, w1, k2⟩ := Qd1 (s := s) (a : Int) h (by omega)
 obtain ⟨wn, rfl⟩ : ∃ n : Nat, w = (n : Int) := ⟨w.toNat, by omega⟩
 obtain ⟨u, t3, s3, e3, u0, u1, k3⟩ := Qd1 (s := s2) ((2 * (1 + wn) : Nat) : Int) k2 (by omega)
 obtain ⟨un, rfl⟩ : ∃ n : Nat, u = (n : Int) := ⟨u.toNat, by omega⟩
 obtain ⟨R, t4, s4, hR, k4, e4⟩ := Qn6 (c := c) (n := 1 + wn) (by omega) (by omega) un [] t3 s3 (m + 6) (k3.mono (by omega)) (by omega) (fun z hz => by cases hz) (by rw [List.length_nil]; omega)
 refine ⟨R, t4, s4, by omega, by omega, k4.mono (by omega), Q5 e2 ?_⟩
 dsimp only
 rw [Qg2 wn (by omega), Qo7 (1 + wn) (by omega)]
 exact Q5 e3 e4
theorem sure_ok {c:List Int} {t s:Int} {m:Nat} {a:Nat} (h1:1≤a) (h2:a≤10) (h:Cu c t m) (hm:m≤10000):Qj4 c m (fun k=>Qp.f k c t s (a:Int)):=by
 obtain ⟨v, t1, s1, e1, v0, v1, k1⟩ := Qd1 (s := s) 5 h (by omega)
 by_cases c0 : v = 0
 ·
  obtain ⟨R, t', s', a1, a2, a3, e⟩ := sure_0 (s := s1) h1 h2 k1 hm
  exact ⟨R, t', s', a1, a2, a3, Q5 e1 (Qk c0 e)⟩
 ·
  by_cases c1 : v = 1
  ·
   obtain ⟨R, t', s', a1, a2, a3, e⟩ := sure_1 (s := s1) k1 hm
   exact ⟨R, t', s', a1, a2, a3, Q5 e1 (Q2 c0 (Qk c1 e))⟩
  ·
   by_cases c2 : v = 2
   ·
    obtain ⟨R, t', s', a1, a2, a3, e⟩ := sure_2 (s := s1) h1 h2 k1 hm
    exact ⟨R, t', s', a1, a2, a3, Q5 e1 (Q2 c0 (Q2 c1 (Qk c2 e)))⟩
   ·
    obtain ⟨R, t', s', a1, a2, a3, e⟩ := sure_3 (s := s1) h1 h2 k1 hm
    exact ⟨R, t', s', a1, a2, a3, Q5 e1 (Q2 c0 (Q2 c1 (Q2 c2 e)))⟩
theorem Qna (c:List Int) (t s:Int): ∀ (d i:Nat) (F:List Int),i+d=11→F.length+d≤1000→ ∃ R:List Int,R.length=F.length+d∧Ev (fun k=>Q0.l0 k (i:Int) c t s F) (R,t,s)
 | 0, i, F, h, hF => ⟨F, rfl, Ev.step (fun _ => Q0.l0.eq_2 ..) (Q2 (by omega) (Ev.now _))⟩
 | d + 1, i, F, h, hF => by
  obtain ⟨R, hR, e⟩ := Qna c t s d (i + 1) (F ++ [0]) (by omega) (by rw [List.length_append, List.length_singleton]; omega)
  refine ⟨R, by rw [hR, List.length_append, List.length_singleton]; omega, Ev.step (fun _ => Q0.l0.eq_2 ..) (Qk (by omega) (Qk (by omega) ?_))⟩
  rw [Qbv (by omega)]; exact e
theorem Qh4 {c:List Int} {t s:Int} {m:Nat} {a:Nat} (h1:1≤a) (h2:a≤10) (h:Cu c t m) (hm:m≤5000): ∃ (R:List Int) (t' s':Int),R.length≤21∧Cu c t' (m+300)∧Ev (fun k=>Q0.f k c t s (a:Int)) (R,t',s'):=by
 obtain ⟨R, t1, s1, hR, hR2, k1, e1⟩ := sure_ok (s := s) h1 h2 h (by omega)
 obtain ⟨v, t2, s2, e2, v0, v1, k2⟩ := Qd1 (s := s1) 20 k1 (by omega)
 have eo := Qjq R (by omega)
 by_cases c0 : v = 0
 ·
  obtain ⟨w, t3, s3, e3, w0, w1, k3⟩ := Qd1 (s := s2) (R.length : Int) k2 (by omega)
  obtain ⟨u, t4, s4, e4, _, k4⟩ := Qe6 (s := s3) [(-1), 1, 3, shl .i64 1 w, 4611686018427387904] (by simp) k3 (by omega)
  refine ⟨R.set w.toNat u, t4, s4, by rw [List.length_set]; omega, k4.mono (by omega), Ev.bind e1 (Q5 eo (Q5 e2 (Qk c0 (Q5 e3 (Qk w0 (Q5 e4 (Qk ?_ (Ev.now _))))))))⟩
  show w < (R.length : Int)
  omega
 ·
  by_cases c1 : v = 1
  ·
   exact ⟨[], t2, s2, by simp, k2.mono (by omega), Ev.bind e1 (Q5 eo (Q5 e2 (Q2 c0 (Qk c1 (Ev.now _)))))⟩
  ·
   by_cases c2 : v = 2
   ·
    obtain ⟨F, hF, e⟩ := Qna c t2 s2 11 0 R (by omega) (by omega)
    exact ⟨F, t2, s2, by omega, k2.mono (by omega), Ev.bind e1 (Q5 eo (Q5 e2 (Q2 c0 (Q2 c1 (Qk c2 e)))))⟩
   ·
    exact ⟨R, t2, s2, by omega, k2.mono (by omega), Ev.bind e1 (Q5 eo (Q5 e2 (Q2 c0 (Q2 c1 (Q2 c2 (Ev.now _))))))⟩
def ArrR (c:List Int) (M:Nat) (f:Nat→Option (List Int × List Int × Int × Int × Int)):Prop:= ∃ (R x:List Int) (b t' s':Int),R.length≤21∧x.length≤12∧Cu c t' M∧Ev f (R,x,b,t',s')
theorem Qm3 (a b:Int): ∃ v,Qc8.f a b=some v:=by unfold Qc8.f;split<;>exact ⟨_,rfl⟩
theorem Qmx (n:Nat):Qc2.f (n:Int) 11=some ((min n 11:Nat):Int):=by unfold Qc2.f;split<;>(congr 1;omega)
theorem Ql8 {c:List Int} {M:Nat} (b:Int) (x:List Int) (F:List Int) (hF:F.length≤21) (hx:x.length<F.length) (t s:Int)
  (tl : ∀ low : Int, ArrR c M (fun k => (Qc8.f 0 (wrap64 (b - low))).bind fun t263 => (Qm.f c t s (wrap64 (t263 + 1))).bind fun bt264 => if x.length < 17592186044416 then Qy.l0 k b (x ++ [wrap64 (low + bt264.1)]) (wrap64 ((x.length : Int) + 1)) c bt264.2.1 bt264.2.2 F else none)) : ∀ (d q : Nat) (low : Int), q + d = x.length →
  ArrR c M (fun k => Qy.l1 k b x (x.length : Int) low x (x.length : Int) (q : Int) c t s F)
 | 0, q, low, h => by
  obtain ⟨R, z, b', t', s', h1, h2, h3, e⟩ := tl low
  exact ⟨R, z, b', t', s', h1, h2, h3, Ev.step (fun _ => Qy.l1.eq_2 ..) (Q2 (by omega) e)⟩
 | d + 1, q, low, h => by
  have hq : q < x.length := by omega
  by_cases hb : Qch.f (rd F (x.length : Int)) (q : Int) = some true
  ·
   obtain ⟨v, hv⟩ := Qm3 low (rd x (q : Int))
   obtain ⟨R, z, b', t', s', h1, h2, h3, e⟩ := Ql8 b x F hF hx t s tl d (q + 1) v (by omega)
   refine ⟨R, z, b', t', s', h1, h2, h3, Ev.step (fun _ => Qy.l1.eq_2 ..) (Qk (by omega) (Qk (by omega) (Qk (by omega) (Qk (by omega) (Qk (by omega) (Q5 hb (Qk rfl (Q5 hv ?_))))))))⟩
   rw [Qbv (by omega)]; exact e
  ·
   have hb2 : Qch.f (rd F (x.length : Int)) (q : Int) = some false := by
    unfold Qch.f at hb ⊢
    rw [if_pos (by omega)] at hb ⊢
    rw [Option.some.injEq] at hb ⊢
    exact Bool.eq_false_iff.mpr hb
   obtain ⟨R, z, b', t', s', h1, h2, h3, e⟩ := Ql8 b x F hF hx t s tl d (q + 1) low (by omega)
   refine ⟨R, z, b', t', s', h1, h2, h3, Ev.step (fun _ => Qy.l1.eq_2 ..) (Qk (by omega) (Qk (by omega) (Qk (by omega) (Qk (by omega) (Qk (by omega) (Q5 hb2 (Q2 (by simp) ?_)))))))⟩
   rw [Qbv (by omega)]; exact e
theorem arr_l0 {c:List Int} (b:Int) (F:List Int) (hF:F.length≤21): ∀ (d:Nat) (x:List Int) (t s:Int) (m:Nat),x.length+d=min F.length 11→Cu c t m→m+2*d≤800000→
  ArrR c (m + 2 * d + 10) (fun k => Qy.l0 k b x (x.length : Int) c t s F)
 | 0, x, t, s, m, h, hc, hm => by
  obtain ⟨v, t1, s1, e1, v0, v1, k1⟩ := Qd1 (s := s) 16 hc (by omega)
  have hl := Qmx F.length
  have go : ∀ {f : Nat → Option (List Int × List Int × Int × Int × Int)} {r}, Ev f r → Ev (fun k => (Qc2.f (F.length : Int) 11).bind fun t262 => if (x.length : Int) < t262 then Qy.l1 k b x (x.length : Int) 0 x (x.length : Int) 0 c t s F else f k) r := fun e => Q5 hl (Q2 (by omega) e)
  by_cases c0 : v = 0
  ·
   exact ⟨F, x ++ [0], b, t1, s1, hF, by rw [List.length_append, List.length_singleton]; omega, k1.mono (by omega), Ev.step (fun _ => Qy.l0.eq_2 ..) (go (Q5 e1 (Qk c0 (Qk (by omega) (Ev.now _)))))⟩
  ·
   by_cases c1 : v = 1
   ·
    by_cases hx : (x.length : Int) > 0
    ·
     obtain ⟨w, t2, s2, e2, w0, w1, k2⟩ := Qd1 (s := s1) (x.length : Int) k1 (by omega)
     obtain ⟨u, t3, s3, e3, _, k3⟩ := Qe6 (s := s2) [(-1), 0, b, wrap64 (b + 1), 4611686018427387904] (by simp) k2 (by omega)
     have hw : w < (x.length : Int) := by omega
     exact ⟨F, x.set w.toNat u, b, t3, s3, hF, by rw [List.length_set]; omega, k3.mono (by omega), Ev.step (fun _ => Qy.l0.eq_2 ..) (go (Q5 e1 (Q2 c0 (Qk c1 (Qk hx (Q5 e2 (Q5 e3 (Qk w0 (Qk hw (Ev.now _)))))))))) ⟩
    ·
     exact ⟨F, x, b, t1, s1, hF, by omega, k1.mono (by omega), Ev.step (fun _ => Qy.l0.eq_2 ..) (go (Q5 e1 (Q2 c0 (Qk c1 (Q2 hx (Ev.now _))))))⟩
   ·
    by_cases c2 : v = 2
    ·
     obtain ⟨u, t3, s3, e3, _, k3⟩ := Qe6 (s := s1) [(-1), 21, 0] (by simp) k1 (by omega)
     exact ⟨F, x, u, t3, s3, hF, by omega, k3.mono (by omega), Ev.step (fun _ => Qy.l0.eq_2 ..) (go (Q5 e1 (Q2 c0 (Q2 c1 (Qk c2 (Q5 e3 (Ev.now _)))))))⟩
    ·
     exact ⟨F, x, b, t1, s1, hF, by omega, k1.mono (by omega), Ev.step (fun _ => Qy.l0.eq_2 ..) (go (Q5 e1 (Q2 c0 (Q2 c1 (Q2 c2 (Ev.now _))))))⟩
 | d + 1, x, t, s, m, h, hc, hm => by
  have hl := Qmx F.length
  obtain ⟨R, z, b', t', s', h1, h2, h3, e⟩ := Ql8 (c := c) (M := m + 2 * (d + 1) + 10) b x F hF (by omega) t s (fun low => by
   obtain ⟨v, hv⟩ := Qm3 0 (wrap64 (b - low))
   obtain ⟨w, t1, s1, e1, _, _, k1⟩ := Qd1 (s := s) (wrap64 (v + 1)) hc (by omega)
   obtain ⟨R, z, b', t', s', h1, h2, h3, e⟩ := arr_l0 b F hF d (x ++ [wrap64 (low + w)]) t1 s1 (m + 2) (by rw [List.length_append, List.length_singleton]; omega) k1 (by omega)
   refine ⟨R, z, b', t', s', h1, h2, h3.mono (by omega), Q5 hv (Q5 e1 (Qk (by omega) ?_))⟩
   rw [Qbv (by omega)]
   rw [List.length_append, List.length_singleton] at e
   exact e) x.length 0 0 (Nat.zero_add _)
  exact ⟨R, z, b', t', s', h1, h2, h3, Ev.step (fun _ => Qy.l0.eq_2 ..) (Q5 hl (Qk (by omega) e))⟩
theorem Ql9 {c:List Int} {t s:Int} {m:Nat} {a:Nat} (h1:1≤a) (h2:a≤10) (h:Cu c t m) (hm:m≤5000):ArrR c (m+400) (fun k=>Qy.f k c t s (a:Int)):=by
 obtain ⟨R, t1, s1, hR, k1, e1⟩ := Qh4 (s := s) h1 h2 h hm
 obtain ⟨b, t2, s2, e2, _, k2⟩ := Qe6 (s := s1) [1, 2, 3, 5, 10, 20, 0] (by simp) k1 (by omega)
 obtain ⟨F, x, b', t', s', g1, g2, g3, e⟩ := arr_l0 (c := c) b R hR (min R.length 11) [] t2 s2 (m + 302) (by rw [List.length_nil]; omega) (k2.mono (by omega)) (by omega)
 exact ⟨F, x, b', t', s', g1, g2, g3.mono (by omega), Ev.bind e1 (Q5 e2 e)⟩
def Draw3 (f:Nat→Option (List Int × List Int × Int)):Prop:= ∃ (R x:List Int) (b:Int),R.length≤21∧x.length≤12∧Ev f (R,x,b)
theorem Qnk {c:List Int} (h:Cu c 0 0):Draw3 (fun k=>Qdi.f k c):=by
 obtain ⟨F, x, b', t', s', g1, g2, g3, e⟩ := Ql9 (s := 0) (a := 10) (by omega) (by omega) h (by omega)
 exact ⟨F, x, b', g1, g2, Ev.bind e (Ev.now _)⟩
def stepH (p:List Nat) (a:List Nat) (i:Nat):Nat:=Qc9 i (less p i) (fun m e=>max m (a.getD e 0+1)) 0
def hs (p:List Nat):Nat→List Nat
 | 0 => []
 | i + 1 => hs p i ++ [stepH p (hs p i) i]
def ht (p:List Nat):List Nat:=hs p p.length
def hh (p:List Nat) (i:Nat):Nat:=(ht p).getD i 0
theorem least_12 (n:Nat):Qc2.f (n:Int) 12=some ((min n 12:Nat):Int):=by unfold Qc2.f;split<;>(congr 1;omega)
theorem Qnh {c:List Int} {t s:Int} {m:Nat} (l:List Int) (h:Cu c t m) (hm:m≤100000): ∃ v t' s',Qcq.f c t s l=some (v,t',s')∧Cu c t' (m+8):=by
 obtain ⟨a, t1, s1, e1, _, _, k1⟩ := Qd1 (s := s) 256 h (by omega)
 obtain ⟨b, t2, s2, e2, _, _, k2⟩ := Qd1 (s := s1) 16 k1 (by omega)
 obtain ⟨o, t3, s3, e3, k3⟩ := one_ok (s := s2) 12 k2 (by omega)
 unfold Qcq.f
 rw [least_12, Option.bind_some, e1, Option.bind_some]
 dsimp only
 rw [e2, Option.bind_some, if_pos (by omega)]
 dsimp only
 rw [e3, Option.bind_some]
 dsimp only
 by_cases ho : o = true
 ·
  obtain ⟨u, t4, s4, e4, _, k4⟩ := Qe6 (s := s3) [(-1), shl .i64 1 ((min l.length 12 : Nat) : Int), 0, wrap64 ((shl .i64 1 ((min l.length 12 : Nat) : Int)) - 1), 4611686018427387904] (by simp) k3 (by omega)
  rw [if_pos ho, e4, Option.bind_some]
  exact ⟨_, _, _, rfl, k4⟩
 ·
  rw [if_neg ho]
  exact ⟨_, _, _, rfl, k3.mono (by omega)⟩
theorem and_nat {s:Nat} (b:Int) (h:s<2 ^ 62): ∃ v:Nat,v≤s∧Go.bits .and .i64 (s:Int) b=(v:Int):=by
 have e1 : (BitVec.ofInt IntKind.i64.bits (s : Int)).toNat = s := by
  show (BitVec.ofInt 64 (s : Int)).toNat = s
  rw [BitVec.toNat_ofInt]; omega
 refine ⟨(BitVec.ofInt IntKind.i64.bits (s : Int)).toNat &&& (BitVec.ofInt IntKind.i64.bits b).toNat, ?_, ?_⟩
 ·
  exact Nat.le_trans Nat.and_le_left (by rw [e1]; exact Nat.le_refl _)
 ·
  simp only [Go.bits, BitVec.toNat_and]
  have h2 : (BitVec.ofInt IntKind.i64.bits (s : Int)).toNat &&& (BitVec.ofInt IntKind.i64.bits b).toNat ≤ s := Nat.le_trans Nat.and_le_left (by rw [e1]; exact Nat.le_refl _)
  exact Qg7 (by omega)
def IdR (c:List Int) (M:Nat) (f:Nat→Option (List Int × Int × Int × Int)):Prop:= ∃ (R:List Int) (v t' s':Int),R.length≤21∧Cu c t' M∧Ev f (R,v,t',s')
theorem Qmu {c:List Int} {t s:Int} {m:Nat} (R:List Int) (v:Int) (b:Bool) (hR:R.length≤21) (h:Cu c t m) (hm:m≤100000) (hb:b=true→setB R v=true):IdR c (m+10) (fun k=>Qbm.j0 k v b c t s R):=by
 cases b with
 | false => exact ⟨R, v, t, s, hR, h.mono (by omega), Ev.step (fun _ => Qbm.j0.eq_2 ..) (Q2 (by simp) (Ev.now _))⟩
 | true =>
  obtain ⟨p, x, rfl, rfl, g, hx⟩ := Qk5 (hb rfl)
  have gl := g.le
  obtain ⟨u, t1, s1, e1, k1⟩ := Qnh (s := s) (toI p) h hm
  have hx62 : x < 2 ^ 62 := Nat.lt_of_lt_of_le hx (Nat.pow_le_pow_right (by omega) (by omega))
  obtain ⟨w, hw, ew⟩ := and_nat u hx62
  have hw2 : w < 2 ^ p.length := by omega
  refine ⟨toI p, ((Qfw p (top p w) : Nat) : Int), t1, s1, hR, k1.mono (by omega), Ev.step (fun _ => Qbm.j0.eq_2 ..) (Qk rfl (Q5 e1 ?_))⟩
  dsimp only
  rw [ew]
  exact Ev.bind (poTop_ev g hw2) (Ev.bind (Qo4 g (top_lt hw2)) (Ev.now _))
theorem ideal_ok {c:List Int} {t s:Int} {m:Nat} {a:Nat} (h1:1≤a) (h2:a≤10) (h:Cu c t m) (hm:m≤4000):IdR c (m+1300) (fun k=>Qbm.f k c t s (a:Int)):=by
 obtain ⟨R, t1, s1, hR, k1, e1⟩ := Qh4 (s := s) h1 h2 h (by omega)
 obtain ⟨v, t2, s2, e2, k2⟩ := Qnh (s := s1) R k1 (by omega)
 obtain ⟨Q, w, t3, s3, g3, k3, e3⟩ := Qmu (s := s2) R v false hR k2 (by omega) (fun e => by cases e)
 by_cases hg : Qej R = true
 ·
  obtain ⟨p, rfl, g⟩ := Qd8 hg
  by_cases hs : inB v 0 ((2 ^ p.length - 1 : Nat) : Int) = true
  ·
   obtain ⟨o, t4, s4, e4, k4⟩ := one_ok (s := s2) 12 k2 (by omega)
   obtain ⟨Q', w', t5, s5, g5, k5, e5⟩ := Qmu (s := s4) (toI p) v (!o) hR k4 (by omega) (fun _ => by unfold setB; rw [hg, toI_len, hs]; rfl)
   exact ⟨Q', w', t5, s5, g5, k5.mono (by omega), Ev.bind e1 (Q5 e2 (Ev.bind (Qd2 _) (Qk hg (Q5 (Qh3 p v g.le) (Qk hs (Q5 e4 e5))))))⟩
  ·
   exact ⟨Q, w, t3, s3, g3, k3.mono (by omega), Ev.bind e1 (Q5 e2 (Ev.bind (Qd2 _) (Qk hg (Q5 (Qh3 p v g.le) (Q2 hs e3)))))⟩
 ·
  exact ⟨Q, w, t3, s3, g3, k3.mono (by omega), Ev.bind e1 (Q5 e2 (Ev.bind (Qd2 _) (Q2 hg e3)))⟩
def Draw2 (f:Nat→Option (List Int × Int)):Prop:= ∃ (R:List Int) (v:Int),R.length≤21∧Ev f (R,v)
theorem Qml {c:List Int} (h:Cu c 0 0):Draw3 (fun k=>Qc5.f k c):=by
 obtain ⟨F, x, b', g1, g2, e⟩ := Qnk h
 exact ⟨F, x, b', g1, g2, Ev.bind e (Ev.now _)⟩
def Qj0 (f:Nat→Option (List Int × List Int)):Prop:= ∃ (R x:List Int),R.length≤21∧x.length≤200∧Ev f (R,x)
theorem dfl_l1 {R:List Int} (hR:R.length≤21): ∀ (d i:Nat) (x:List Int),i+d=20→x.length≤100+i→Qj0 (fun k=>Qn.l1 k x (i:Int) R)
 | 0, i, x, h, hx => ⟨R, x, hR, by omega, Ev.step (fun _ => Qn.l1.eq_2 ..) (Q2 (by omega) (Ev.now _))⟩
 | d + 1, i, x, h, hx => by
  obtain ⟨R', x', h1, h2, e⟩ := dfl_l1 hR d (i + 1) (x ++ [wrap64 ((shl .i64 1 (R.length : Int)) - 1)]) (by omega) (by rw [List.length_append, List.length_singleton]; omega)
  refine ⟨R', x', h1, h2, Ev.step (fun _ => Qn.l1.eq_2 ..) (Qk (by omega) (Qk (by omega) ?_))⟩
  rw [Qbv (by omega)]; exact e
theorem dfl_j1 {c R x:List Int} {t s:Int} {m:Nat} (hR:R.length≤21) (hx:x.length≤99) (h:Cu c t m) (hm:m≤800000):Qj0 (fun k=>Qn.j1 k x c t s R):=by
 obtain ⟨v, t1, s1, e1, v0, v1, k1⟩ := Qd1 (s := s) 8 h (by omega)
 by_cases c0 : v = 0
 ·
  obtain ⟨u, t2, s2, e2, _, k2⟩ := Qe6 (s := s1) [(-1), 0, 1, 2, 2048] (by simp) k1 (by omega)
  exact ⟨R, x ++ [u], hR, by rw [List.length_append, List.length_singleton]; omega, Ev.step (fun _ => Qn.j1.eq_2 ..) (Q5 e1 (Qk c0 (Q5 e2 (Qk (by omega) (Ev.now _)))))⟩
 ·
  by_cases c1 : v = 1
  ·
   obtain ⟨R', x', h1, h2, e⟩ := dfl_l1 hR 20 0 x (by omega) (by omega)
   exact ⟨R', x', h1, h2, Ev.step (fun _ => Qn.j1.eq_2 ..) (Q5 e1 (Q2 c0 (Qk c1 e)))⟩
  ·
   exact ⟨R, x, hR, by omega, Ev.step (fun _ => Qn.j1.eq_2 ..) (Q5 e1 (Q2 c0 (Q2 c1 (Ev.now _))))⟩
theorem dfl_l0 {c R:List Int} {y:List Nat} {b:Nat} {t s:Int} {m:Nat} (hR:R.length≤21) (hy:y.length≤10) (hb:b≤20) (h:Cu c t m) (hm:m≤800000): ∀ (d i:Nat) (x:List Int),i+d=b→x.length≤i→Qj0 (fun k=>Qn.l0 k (toI y) (b:Int) x (i:Int) c t s R)
 | 0, i, x, hi, hx => by
  obtain ⟨R', x', h1, h2, e⟩ := dfl_j1 (x := x) (s := s) hR (by omega) h hm
  exact ⟨R', x', h1, h2, Ev.step (fun _ => Qn.l0.eq_2 ..) (Q2 (by omega) e)⟩
 | d + 1, i, x, hi, hx => by
  obtain ⟨R', x', h1, h2, e⟩ := dfl_l0 (s := s) hR hy hb h hm d (i + 1) (x ++ [((upN y i : Nat) : Int)]) (by omega) (by rw [List.length_append, List.length_singleton]; omega)
  refine ⟨R', x', h1, h2, Ev.step (fun _ => Qn.l0.eq_2 ..) (Qk (by omega) (Ev.bind (Qim y hy i) (Qk (by omega) ?_)))⟩
  rw [Qbv (by omega)]; exact e
theorem Qk0 {c:List Int} (h:Cu c 0 0):Qj0 (fun k=>Qn.f k c):=by
 obtain ⟨F, x, b, t', s', g1, g2, g3, e⟩ := Ql9 (s := 0) (a := 6) (by omega) (by omega) h (by omega)
 by_cases ha : Qe0 F x b = true
 ·
  obtain ⟨p, y, q, rfl, rfl, rfl, g, hq, a⟩ := Qha ha
  obtain ⟨R', x', h1, h2, e2⟩ := dfl_l0 (s := s') g1 (a.small g) hq g3 (by omega) q 0 [] (by omega) (by simp)
  exact ⟨R', x', h1, h2, Ev.bind e (Ev.bind (Qgs _ _ _) (Qk ha e2))⟩
 ·
  obtain ⟨R', x', h1, h2, e2⟩ := dfl_j1 (x := []) (s := s') g1 (by simp) g3 (by omega)
  exact ⟨R', x', h1, h2, Ev.bind e (Ev.bind (Qgs _ _ _) (Q2 ha e2))⟩
theorem Qjk {c:List Int} (h:Cu c 0 0): ∃ (R:List Int) (v b:Int),R.length≤21∧Ev (fun k=>Qb5.f k c) (R,v,b):=by
 obtain ⟨R, v, t', s', hR, k1, e⟩ := ideal_ok (s := 0) (a := 8) (by omega) (by omega) h (by omega)
 obtain ⟨u, t2, s2, e2, _, k2⟩ := Qe6 (s := s') [0, 1, 1, 5, 20, 21, (-1)] (by simp) k1 (by omega)
 exact ⟨R, v, u, hR, Ev.bind e (Q5 e2 (Ev.now _))⟩
theorem Qly {c:List Int} (h:Cu c 0 0):Draw2 (fun k=>Qda.f k c):=by
 obtain ⟨u, t1, s1, e1, hu, k1⟩ := Qe6 (s := 0) [3, 4, 5, 7] (by simp) h (by omega)
 obtain ⟨n, rfl, n1, n2⟩ : ∃ n : Nat, u = (n : Int) ∧ 1 ≤ n ∧ n ≤ 10 := by
  refine ⟨u.toNat, ?_, ?_, ?_⟩ <;> (simp at hu; omega)
 obtain ⟨R, t2, s2, hR, k2, e2⟩ := Qh4 (s := s1) n1 n2 k1 (by omega)
 obtain ⟨v, t3, s3, e3, _, k3⟩ := Qe6 (s := s2) [0, 1, 2, 2, 3, 5, (-1)] (by simp) k2 (by omega)
 exact ⟨R, v, hR, Q5 e1 (Ev.bind e2 (Q5 e3 (Ev.now _)))⟩
theorem Qj8 {c:List Int} (h:Cu c 0 0):Draw2 (fun k=>Qcz.f k c):=by
 obtain ⟨R, t2, s2, hR, k2, e2⟩ := Qh4 (s := 0) (a := 7) (by omega) (by omega) h (by omega)
 obtain ⟨v, t3, s3, e3, _, k3⟩ := Qe6 (s := s2) [0, 1, 2, 3, 5, 20, 21, (-1)] (by simp) k2 (by omega)
 exact ⟨R, v, hR, Ev.bind e2 (Q5 e3 (Ev.now _))⟩
theorem Qkk {p y:List Nat} {c:Nat} (g:Good p) (hc:c≤20) (a:Arr p y c):Ev (fun k=>Qc4.f k (toI p) (toI y) (c:Int)) (toI ((List.range' 0 c).map (upN y)),true):=
 Ev.bind (Qet _ _ _) (Qk (Qie g hc a) (Ev.bind (Qhy _ y (a.small g) c (by omega)) (Ev.now _)))
theorem Qo0 {l x:List Int} {b:Int} (h: ¬ Qe0 l x b=true):Ev (fun k=>Qc4.f k l x b) ([],false):=Ev.bind (Qet _ _ _) (Q2 h (Ev.now _))
theorem Qmr {p y:List Nat} {c:Nat} (g:Good p) (hc:c≤20) (a:Arr p y c):Ev (fun k=>Qcu.f k (toI p) (toI y) (c:Int)) (((upN y 0:Nat):Int),true):=by
 refine Ev.bind (Qet _ _ _) (Qk (Qie g hc a) (Ev.bind (Qhy _ y (a.small g) 1 (by omega)) (Qk (by simp) ?_)))
 exact Ev.now _
theorem home_no {l x:List Int} {b:Int} (h: ¬ Qe0 l x b=true):Ev (fun k=>Qcu.f k l x b) (0,false):=Ev.bind (Qet _ _ _) (Q2 h (Ev.now _))
theorem Qlj {p L:List Nat} (g:Good p) (hl:L.length≤20) (hd:Desc p L.reverse (full p)):Ev (fun k=>Qcy.f k (toI p) (toI L)) (toI (arrD p.length L.reverse),true):=by
 have h := Qh1 (toI p) (toI L)
 rw [if_pos ⟨Qev g, by rw [toI_len]; exact hl⟩, Qd3, desc_okJ g hd] at h
 unfold resJ at h
 rw [if_pos rfl, cL_cJ] at h
 exact Ev.bind h (Ev.now _)
theorem fromL_no {l x:List Int} (h: ¬ (Qej l=true∧x.length≤20∧(List.range' 0 x.length).all (okJ (l.map Int.toNat) x)=true)):Ev (fun k=>Qcy.f k l x) ([],false):=by
 have e := Qh1 l x
 have e2 : (if Qej l = true ∧ x.length ≤ 20 then resJ (l.map Int.toNat) x ((List.range' 0 x.length).all (okJ (l.map Int.toNat) x)) else ([], false)) = ([], false) := by
  split
  ·
   rename_i q
   rw [Bool.eq_false_iff.mpr fun w => h ⟨q.1, q.2, w⟩]; rfl
  ·
   rfl
 rw [e2] at e
 exact Ev.bind e (Ev.now _)
theorem Qlh {p:List Nat} {t c:Nat} (g:Good p) (ht:IsId p t) (hc:c≤20):Ev (fun k=>Qv.f k (toI p) (t:Int) (c:Int)) (toI (Qd6 p.length t c),true):=by
 have := Qgo t c p.length (g.len63 ht.1) g.le p.length 0 [] (by omega) (by simp)
 refine Ev.bind (Qea _ _) (Qk (by rw [Qev g, Bool.true_and, Qdc]; omega) (Ev.bind (Qfr _ _) ?_))
 rw [Qms g ht]
 refine Ev.step (fun _ => Qv.j0.eq_2 ..) (Q2 (by simp) (Q5 (n_eq _) ?_))
 simpa [Qd6] using this
theorem arrOf_no {l:List Int} {s b:Int} (h: ¬ (idB l s=true∧inB b 0 20=true)):Ev (fun k=>Qv.f k l s b) ([],false):=by
 refine Ev.bind (Qea _ _) (Qcg (fun e => Ev.bind (Qfr _ _) ?_) (fun _ => ?_))
 ·
  rw [Bool.and_eq_true] at e
  rw [Bool.eq_false_iff.mpr fun w => h ⟨w, e.2⟩]
  exact Ev.step (fun _ => Qv.j0.eq_2 ..) (Qk rfl (Ev.now _))
 ·
  exact Ev.step (fun _ => Qv.j0.eq_2 ..) (Qk rfl (Ev.now _))
theorem rowA_val {p y:List Nat} {c:Nat} (g:Good p) (hc:c≤20) (a:Arr p y c):Ev (fun k=>Qdw.f k (toI p) (toI y) (c:Int)) (toI (rowN p c y),true):=by
 have gl := g.le
 have hs := a.small g
 refine Ev.bind (a := (toI (rowN p c y), true)) ?_ (Ev.now _)
 refine Ev.bind (Qet _ _ _) (Qk (Qie g hc a) (Q5 (Qei _ _ _) ?_))
 refine Ev.step (fun _ => Qu.j0.eq_2 ..) (Q2 (by decide) (Q5 (Clone_eq (toI y) (by rw [toI_len]; omega)) (Q5 (n_eq _) ?_)))
 rw [toI_len]
 refine Ev.bind (Qnm p.length (by omega)) (Qk (by omega) (Ev.bind (Qon _ (by simp; omega)) (Ev.step (fun _ => Qu.j1.eq_2 ..) ?_)))
 have e : mx (1 : Int) (wrap64 (-(1 : Int))) = ((1 : Nat) : Int) := by rw [Qc1 (by omega) (by omega)]; unfold mx; omega
 rw [e, toI_rev]
 exact Qkh g hc (List.range p.length).reverse (by simp) (by simp; omega) 1 (by omega) 1 0 y (by omega) a
theorem rows1 {p:List Nat} {s:Nat} (g:Good p) (hs:IsId p s):Ev (fun k=>Qbq.f k (toI p) (s:Int) 1) ((row p s:Nat):Int):=by
 have e0 : mx (1 : Int) 0 = 1 := by unfold mx; omega
 have e1 : mx (wrap64 (-(1 : Int))) 0 = 0 := by rw [Qc1 (by omega) (by omega)]; unfold mx; omega
 have e2 : wrap64 ((0 : Int) + 1) = 1 := by rw [Qc1 (by omega) (by omega)]; omega
 show Ev (fun k => Qbq.l0 k (s : Int) 1 (mx 1 0) 0 (toI p)) _
 rw [e0]
 refine Ev.step (fun _ => Qbq.l0.eq_2 ..) (Qk (by omega) (Ev.bind (row_ev g hs.1) ?_))
 rw [e2]
 refine Ev.step (fun _ => Qbq.l0.eq_2 ..) (Q2 (by omega) ?_)
 rw [e1]
 exact Ev.step (fun _ => Qbq.l1.eq_2 ..) (Q2 (by omega) (Ev.now _))
theorem row1_val {p:List Nat} {s:Nat} (g:Good p) (hs:IsId p s):Ev (fun k=>Qdr.f k (toI p) (s:Int)) (((row p s:Nat):Int),true):=
 Ev.bind (a := (((row p s : Nat) : Int), true)) (Ev.bind (Qfr _ _) (Qk (Qms g hs) (Q5 (Qei _ _ _) (Qk (by decide) (Ev.bind (rows1 g hs) (Ev.now _)))))) (Ev.now _)
theorem nId_val {p:List Nat} {s:Nat} (g:Good p) (hs:IsId p s):Ev (fun k=>Qd5.f k (toI p) (s:Int)) true:=by
 have e : Ev (fun k => Qdv.f k (toI p) (s : Int)) (true, true) := by
  refine Ev.bind (Qmv _ _) (Qk (Qn1 g hs.1) (Ev.bind (Qh0 g hs.1) ?_))
  rw [(Qgx hs.1).mpr hs, beq_self_eq_true]
  exact Ev.now _
 exact Ev.bind e (Qk rfl (Ev.now _))
theorem isA_val {p y:List Nat} {c:Nat} (g:Good p) (hc:c≤20) (a:Arr p y c):Ev (fun k=>Qd0.f k (toI p) (toI y) (c:Int)) (true,true):=by
 refine Ev.bind (Qea _ _) (Qk (by rw [Qev g, Bool.true_and, Qdc]; omega) (Q5 (n_eq _) (Qk (by rw [toI_len, toI_len, a.len]) ?_)))
 refine Ev.bind (Qib g (toI y) c (by omega) (by rw [toI_len, a.len])) ?_
 rw [Qns a]
 exact Ev.now _
theorem allA_val {p:List Nat} {c:Nat} (g:Good p) (hc:c≤4) (hp:p.length≤6):Ev (fun k=>Qdg.f k (toI p) (c:Int)) ((allN p c p.length []).map toI,true):=
 Ev.bind (Qen _) (Qk (Qev g) (Q5 (Qei _ _ _) (Qk (by rw [Qdc]; omega) (Q5 (n_eq _) (Q2 (by rw [toI_len]; omega) (Ev.bind (Qlm g (by omega) hp) (Ev.now _)))))))
theorem allA_no {l:List Int} {b:Int} (h: ¬ (Qej l=true∧inB b 0 4=true∧l.length≤6)):Ev (fun k=>Qdg.f k l b) ([],false):=by
 refine Ev.bind (Qen _) (Qcg (fun h1 => Q5 (Qei _ _ _) (Qcg (fun h2 => Q5 (n_eq _) (Qk ?_ (Ev.now _))) (fun _ => Ev.now _))) (fun _ => Ev.now _))
 have : ¬ l.length ≤ 6 := fun q => h ⟨h1, h2, q⟩
 omega
theorem Qmf {p:List Nat} {c:Nat} (g:Good p) (hc:c≤20) (hp:p.length≤6):Ev (fun k=>Qcw.f k (toI p) (c:Int)) (Qfn (toI (idls p)) c,true):=
 Ev.bind (Qea _ _) (Qk (by rw [Qev g, Bool.true_and, Qdc]; omega) (Q5 (n_eq _) (Q2 (by rw [toI_len]; omega) (Ev.bind (Qmg g hc) (Ev.now _)))))
theorem cntA_no {l:List Int} {b:Int} (h: ¬ (Qej l=true∧inB b 0 20=true∧l.length≤6)):Ev (fun k=>Qcw.f k l b) (0,false):=by
 refine Ev.bind (Qea _ _) (Qcg (fun h1 => Q5 (n_eq _) (Qk ?_ (Ev.now _))) (fun _ => Ev.now _))
 rw [Bool.and_eq_true] at h1
 have : ¬ l.length ≤ 6 := fun q => h ⟨h1.1, h1.2, q⟩
 omega
theorem cntI_val {p:List Nat} (g:Good p):Ev (fun k=>Qdh.f k (toI p)) (((idls p).length:Int),true):=by
 have e : Ev (fun k => Qdu.f k (toI p)) (toI (idls p), true) := Ev.bind (Qen _) (Qk (Qev g) (Ev.bind (Qh8 g) (Ev.now _)))
 refine Ev.bind e ?_
 dsimp only
 rw [toI_len]
 exact Ev.now _
end Go.Proofs.Ytkgngggppcmpfaa.M
end
section
namespace Go.Proofs.Ytkgngggppcmpfaa.M
open Go.RowKit Go.Proofs.Ytkgngggppcmpfaa.L Go.Proofs.Ytkgngggppcmpfaa.M Go.Proofs.YtkgngggppcmpfaaW.PrintWords Go.Proofs.YtkgngggppcmpfaaW.PrintLast Go.Proofs.YtkgngggppcmpfaaW.PrintMore
set_option linter.unusedVariables false
theorem al_j10 {c:List Int} (h:Cu c 0 0):Ev (fun k=>laws_FnArraysAreLayers.j10 k c) true:=by
 obtain ⟨R, b, hR, e⟩ := Qj8 h
 obtain ⟨r, hs, hi⟩ := Qgw R b (by omega)
 refine Ev.step (fun _ => laws_FnArraysAreLayers.j10.eq_2 ..) (Ev.bind e (Ev.bind hi (Ev.bind hs (Q2 (by simp) (Ev.step (fun _ => laws_FnArraysAreLayers.j11.eq_2 ..) (Q2 (by simp) ?_))))))
 by_cases ha : Qej R = true ∧ inB b 0 20 = true ∧ R.length ≤ 6
 ·
  obtain ⟨h1, h2, h3⟩ := ha
  obtain ⟨p, rfl, g⟩ := Qd8 h1
  have b2 := Qdc.mp h2
  obtain ⟨n, rfl⟩ : ∃ n : Nat, b = (n : Int) := ⟨b.toNat, by omega⟩
  rw [toI_len] at h3
  rw [Qfh hi (Qmf g (by omega) h3)]
  refine Qk rfl (Qcg (fun e1 => ?_) (fun _ => Ev.now _))
  have e1' : n = 1 := by omega
  subst e1'
  refine Ev.bind (cntI_val g) (Qk rfl ?_)
  dsimp only
  rw [Qox g, beq_self_eq_true]
  exact Ev.now _
 ·
  rw [Qfh hi (cntA_no ha)]
  exact Q2 (by simp) (Ev.now _)
theorem al_l0 {c:List Int} {p:List Nat} {b:Nat} (g:Good p) (hb:b≤20) (X:List (List Int)) (hX: ∀ x ∈ X,∃ y,x=toI y∧Arr p y b) (hl:X.length≤100000) (ej:Ev (fun k=>laws_FnArraysAreLayers.j10 k c) true): ∀ (d q:Nat),q+d=X.length→
  Ev (fun k => laws_FnArraysAreLayers.l0 k c (b : Int) X (X.length : Int) (q : Int) (toI p)) true
 | 0, q, h => Ev.step (fun _ => laws_FnArraysAreLayers.l0.eq_2 ..) (Q2 (by omega) ej)
 | d + 1, q, h => by
  have hq : q < X.length := by omega
  obtain ⟨y, ey, a⟩ := hX X[q] (List.getElem_mem hq)
  refine Ev.step (fun _ => laws_FnArraysAreLayers.l0.eq_2 ..) (Qk (by omega) (Qk (by omega) (Qk (by omega) ?_)))
  rw [Qnz hq, ey, Qbv (by omega)]
  exact Ev.bind (isA_val g hb a) (Qk rfl (Qk rfl (al_l0 g hb X hX hl ej d (q + 1) (by omega))))
theorem al_j6 {c:List Int} (h:Cu c 0 0):Ev (fun k=>laws_FnArraysAreLayers.j6 k c) true:=by
 obtain ⟨R, b, hR, e⟩ := Qly h
 have ej := al_j10 h
 obtain ⟨r, hr, hs, hi⟩ := Qhi R b (by omega)
 refine Ev.step (fun _ => laws_FnArraysAreLayers.j6.eq_2 ..) (Ev.bind e (Ev.bind hi (Ev.bind hs (Q2 (by simp) (Ev.bind (Qoj _ hr) (Ev.step (fun _ => laws_FnArraysAreLayers.j7.eq_2 ..) (Q2 (by simp) ?_)))))))
 by_cases ha : Qej R = true ∧ inB b 0 4 = true ∧ R.length ≤ 6
 ·
  obtain ⟨h1, h2, h3⟩ := ha
  obtain ⟨p, rfl, g⟩ := Qd8 h1
  have b2 := Qdc.mp h2
  obtain ⟨n, rfl⟩ : ∃ n : Nat, b = (n : Int) := ⟨b.toNat, by omega⟩
  rw [toI_len] at h3
  have er := Qfh hi (allA_val g (by omega) h3)
  rw [er] at hr ⊢
  have hn := hr.1
  refine Qk rfl (Ev.bind (Qmf g (by omega) h3) (Qk rfl ?_))
  dsimp only at hn ⊢
  rw [Qow g (by omega), List.length_map, bne_self_eq_false]
  refine Ev.step (fun _ => laws_FnArraysAreLayers.j8.eq_2 ..) (Q2 (by simp) ?_)
  refine al_l0 g (by omega) _ (fun x hx => ?_) hn ej _ 0 (Nat.zero_add _)
  obtain ⟨y, hy, rfl⟩ := List.mem_map.mp hx
  exact ⟨y, rfl, (Qgk g).mp hy⟩
 ·
  rw [Qfh hi (allA_no ha)]
  exact Q2 (by simp) ej
theorem al_j3 {c:List Int} (h:Cu c 0 0):Ev (fun k=>laws_FnArraysAreLayers.j3 k c) true:=by
 obtain ⟨R, s, b, hR, e⟩ := Qjk h
 have ej := al_j6 h
 obtain ⟨r, hr, hs, hi⟩ := Qgm R s b (by omega)
 refine Ev.step (fun _ => laws_FnArraysAreLayers.j3.eq_2 ..) (Ev.bind e (Ev.bind hi (Ev.bind hs (Q2 (by simp) (Ev.bind (Qff _ (by omega)) (Ev.step (fun _ => laws_FnArraysAreLayers.j4.eq_2 ..) (Q2 (by simp) ?_)))))))
 by_cases ha : idB R s = true ∧ inB b 0 20 = true
 ·
  obtain ⟨h1, h2⟩ := ha
  obtain ⟨p, t, rfl, rfl, g, ht⟩ := Qmt h1
  have gl := g.le
  have b2 := Qdc.mp h2
  obtain ⟨n, rfl⟩ : ∃ n : Nat, b = (n : Int) := ⟨b.toNat, by omega⟩
  have a := Qlg g (b := n) ht
  have hrw := row_id g ht
  rw [Qfh hi (Qlh g ht (by omega))]
  refine Qk rfl (Ev.step (fun _ => laws_FnArraysAreLayers.j5.eq_2 ..) (Qcg (fun hp => ?_) (fun _ => ej)))
  have hp : (n : Int) > 0 := of_decide_eq_true hp
  refine Ev.bind (rowA_val g (by omega) a) (Ev.bind (row1_val g ht) (Ev.bind (Qlh g hrw (by omega)) (Ev.bind (Qmr g (by omega) a) (Qk rfl (Qk rfl (Qk rfl ?_))))))
  dsimp only
  rw [Qop g ht, arrOf_up g ht (by omega)]
  exact Ev.bind (Qff _ (by rw [toI_len, Qfa]; omega)) (Qk rfl (Qk rfl (Qk rfl ej)))
 ·
  rw [Qfh hi (arrOf_no ha)]
  exact Q2 (by simp) (Ev.step (fun _ => laws_FnArraysAreLayers.j5.eq_2 ..) (Q2 (by simp) ej))
theorem al_j1 {c:List Int} (h:Cu c 0 0):Ev (fun k=>laws_FnArraysAreLayers.j1 k c) true:=by
 obtain ⟨R, x, hR, hx, e⟩ := Qk0 h
 have ej := al_j3 h
 obtain ⟨r, hr, hs, hi⟩ := Qg8 R x (by omega) (by omega)
 refine Ev.step (fun _ => laws_FnArraysAreLayers.j1.eq_2 ..) (Ev.bind e (Ev.bind hi (Ev.bind hs (Q2 (by simp) (Ev.bind (Qff _ (by omega)) (Ev.step (fun _ => laws_FnArraysAreLayers.j2.eq_2 ..) (Q2 (by simp) ?_)))))))
 by_cases ha : Qej R = true ∧ x.length ≤ 20 ∧ (List.range' 0 x.length).all (okJ (R.map Int.toNat) x) = true
 ·
  obtain ⟨h1, h2, h3⟩ := ha
  obtain ⟨p, rfl, g⟩ := Qd8 h1
  rw [Qd3] at h3
  obtain ⟨L, rfl, hd⟩ := okJ_desc g h3
  rw [toI_len] at h2
  have a := Ql7 g hd
  rw [List.length_reverse] at a
  rw [Qfh hi (Qlj g h2 hd)]
  have hl := Qkk g h2 a
  have e2 : (List.range' 0 L.length).map (upN (arrD p.length L.reverse)) = L := by
   have q := Qjz g L.reverse hd
   rw [List.length_reverse] at q
   rw [← Qlb, q, List.reverse_reverse]
  rw [e2] at hl
  refine Qk rfl ?_
  rw [toI_len]
  exact Ev.bind hl (Qk rfl (Ev.bind (Qff _ (by rw [toI_len]; omega)) (Qk rfl ej)))
 ·
  rw [Qfh hi (fromL_no ha)]
  exact Q2 (by simp) ej
theorem pFnArraysAreLayers:laws_FnArraysAreLayers.Pure:=by
 intro l0 l1 h1 h2 hb h3 h4 hb1
 refine Ev.rounds ?_
 obtain ⟨v, hv, hl⟩ := big_eq l0 l1
 cases v with
 | true => exact Q5 hv (Qk rfl (Ev.now _))
 | false =>
  have hl := hl rfl
  have c0 := Qmk hl.1 hb
  have c1 := Qmk hl.2 hb1
  have ej := al_j1 c1
  obtain ⟨R, x, b, hR, hx, e⟩ := Qml c0
  obtain ⟨r, hr, hs, hi⟩ := Qhm R x b (by omega) (by omega)
  obtain ⟨r2, hs2, hi2⟩ := Qgn R x b (by omega) (by omega)
  refine Q5 hv (Q2 (by simp) (Ev.bind e (Ev.bind hi (Ev.bind hs (Ev.bind hi2 (Ev.bind hs2 (Q2 (by simp) (Ev.bind (Qff _ (by omega)) (Qk rfl (Q2 (by simp) (Qk rfl (Ev.step (fun _ => laws_FnArraysAreLayers.j0.eq_2 ..) ?_))))))))))))
  by_cases ha : Qe0 R x b = true
  ·
   obtain ⟨p, y, q, rfl, rfl, rfl, g, hq, a⟩ := Qha ha
   have hy := a.small g
   have hd := Qoa g a q
   have hf := Qlj (L := (upR y q).reverse) g (by rw [List.length_reverse, Qla]; exact hq) (by rw [List.reverse_reverse]; exact hd)
   rw [List.reverse_reverse, Qjf a, Qlb] at hf
   rw [Qfh hi (Qkk g hq a), Qfh hi2 (Qmr g hq a)]
   exact Q2 (by simp) (Qk rfl (Ev.bind hf (Qk rfl (Ev.bind (Qff _ (by rw [toI_len]; omega)) (Qk rfl (Qk (by simp) (Ev.bind (nId_val g (upN_id g a 0)) (Qk rfl ej))))))))
  ·
   rw [Qfh hi (Qo0 ha), Qfh hi2 (home_no ha)]
   exact Q2 (by simp) (Q2 (by simp) ej)
end Go.Proofs.Ytkgngggppcmpfaa.M
namespace Go.Proofs.Ytkgngggppcmpfaa.Pure
open Go.Proofs.Ytkgngggppcmpfaa.L
theorem FnArraysAreLayers:laws_FnArraysAreLayers.Pure:=Go.Proofs.Ytkgngggppcmpfaa.M.pFnArraysAreLayers
end Go.Proofs.Ytkgngggppcmpfaa.Pure
end
