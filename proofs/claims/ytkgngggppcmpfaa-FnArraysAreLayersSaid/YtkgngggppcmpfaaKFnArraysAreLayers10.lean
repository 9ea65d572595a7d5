/- Laws about the given program: the law FnArraysAreLayers answers true for every input that its row lets in; no condition is added to the given statement. Contracts of the Go functions that it reaches, and the plain proof over lists. -/
import Derived.Test.YtkgngggppcmpfaaWFnArraysAreLayers0
import Derived.Test.YtkgngggppcmpfaaKFnArraysAreLayers0
import Derived.Test.YtkgngggppcmpfaaKFnArraysAreLayers1
import Derived.Test.YtkgngggppcmpfaaKFnArraysAreLayers2
import Derived.Test.YtkgngggppcmpfaaKFnArraysAreLayers3
import Derived.Test.YtkgngggppcmpfaaKFnArraysAreLayers4
import Derived.Test.YtkgngggppcmpfaaKFnArraysAreLayers5
import Derived.Test.YtkgngggppcmpfaaKFnArraysAreLayers6
import Derived.Test.YtkgngggppcmpfaaKFnArraysAreLayers7
import Derived.Test.YtkgngggppcmpfaaKFnArraysAreLayers8
import Derived.Test.YtkgngggppcmpfaaKFnArraysAreLayers9
section
namespace Go.Proofs.Ytkgngggppcmpfaa.M
set_option linter.unusedVariables false
open Go.RowKit Go.Proofs.YtkgngggppcmpfaaW.PrintWords Go.Proofs.YtkgngggppcmpfaaW.PrintLast Go.Proofs.YtkgngggppcmpfaaW.PrintMore
def toI (p:List Nat):List Int:=p.map fun (x:Nat)=>(x:Int)
@[simp] theorem toI_len (p : List Nat) : (toI p).length = p.length := by simp [toI]
@[simp] theorem toI_nil : toI [] = [] := rfl
theorem Qe7 (p q:List Nat):toI (p++q)=toI p++toI q:=by simp [toI]
theorem Qe8 (x:Nat):toI [x] = [(x:Int)] :=rfl
theorem Qi2 (p:List Nat) (i x:Nat):(toI p).set i (x:Int)=toI (p.set i x):=by simp [toI,List.map_set]
theorem Qk9 (n x:Nat):List.replicate n (x:Int)=toI (List.replicate n x):=by simp [toI]
theorem Qek (p:List Nat) (i:Nat):rd (toI p) (i:Int)=((p.getD i 0:Nat):Int):=by
 simp only [rd, toI, Int.toNat_natCast, List.getD_eq_getElem?_getD, List.getElem?_map]
 cases p[i]? <;> simp
theorem toI_inj {p q:List Nat} (h:toI p=toI q):p=q:=by
 exact (List.map_inj_right (fun a b h => Int.ofNat.inj h)).mp h
def less (p:List Nat) (i:Nat):Nat:=p.getD i 0
theorem Qmz {p:List Nat} {i:Nat} (h:p.length≤i):less p i=0:=by simp [less,List.getD_eq_getElem?_getD,h]
theorem Qez (p:List Nat) (i:Nat):rd (toI p) (i:Int)=((less p i:Nat):Int):=Qek p i
structure Good (p : List Nat) : Prop where
 pos : 1 ≤ p.length
 le : p.length ≤ 10
 lt : ∀ i, i < p.length → less p i < 2 ^ i
 tr : ∀ i, i < p.length → ∀ j, (less p i).testBit j = true → ∀ m, (less p j).testBit m = true → (less p i).testBit m = true
theorem Good.bit {p:List Nat} (g:Good p) {i j:Nat} (h:(less p i).testBit j=true):j<i∧i<p.length:=by
 have hi : i < p.length := by
  apply Nat.lt_of_not_le; intro h2; rw [Qmz h2, Nat.zero_testBit] at h; cases h
 exact ⟨Qe1 (g.lt i hi) h, hi⟩
theorem Good.lt10 {p:List Nat} (g:Good p) (i:Nat):less p i<2 ^ p.length:=by
 by_cases hi : i < p.length
 ·
  exact Nat.lt_of_lt_of_le (g.lt i hi) (Nat.pow_le_pow_right (by decide) (by omega))
 ·
  rw [Qmz (by omega)]; exact Nat.two_pow_pos _
theorem Good.lt63 {p:List Nat} (g:Good p) (i:Nat):less p i<2 ^ 63:=M.lt63 (g.lt10 i) (by have:=g.le;omega)
theorem Good.tr' {p:List Nat} (g:Good p) {i j m:Nat} (h1:(less p i).testBit j=true) (h2:(less p j).testBit m=true):(less p i).testBit m=true:=g.tr i (g.bit h1).2 j h1 m h2
def okAt (l:List Int) (i:Nat):Bool:=inB (l.getD i 0) 0 ((2 ^ i - 1:Nat):Int) && (List.range i).all fun j=> !((l.getD i 0).toNat.testBit j)||sd (l.getD j 0).toNat (l.getD i 0).toNat==0
theorem Qm7 (l:List Int) (i:Nat):okAt l i=(inB (l.getD i 0) 0 ((2 ^ i - 1:Nat):Int) && (List.range i).all fun j=> !((l.getD i 0).toNat.testBit j)||sd (l.getD j 0).toNat (l.getD i 0).toNat==0):=rfl
def Qej (l:List Int):Bool:=inB (l.length:Int) 1 10 && (List.range' 0 l.length).all (okAt l)
theorem Qjs {l:List Int} {i:Nat} (h:okAt l i=true): ∃ a:Nat,l.getD i 0=(a:Int)∧a<2 ^ i:=by
 simp only [okAt, Bool.and_eq_true, Qdc] at h
 have := Nat.two_pow_pos i
 exact ⟨(l.getD i 0).toNat, by omega, by omega⟩
theorem Qd8 {l:List Int} (h:Qej l=true): ∃ p,l=toI p∧Good p:=by
 simp only [Qej, Bool.and_eq_true, Qdc, List.all_eq_true, List.mem_range'_1] at h
 obtain ⟨⟨h1, h2⟩, h3⟩ := h
 have hn : ∀ i, i < l.length → okAt l i = true := fun i hi => h3 i (by omega)
 have e : l = toI (l.map Int.toNat) := by
  apply List.ext_getElem (by simp)
  intro i hi1 hi2
  obtain ⟨a, ha, _⟩ := Qjs (hn i hi1)
  have hg : l.getD i 0 = l[i] := by simp [List.getD_eq_getElem?_getD, hi1]
  simp only [toI, List.getElem_map]; omega
 refine ⟨l.map Int.toNat, e, ?_⟩
 have hl : ∀ i, less (l.map Int.toNat) i = (l.getD i 0).toNat := by
  intro i
  simp only [less, List.getD_eq_getElem?_getD, List.getElem?_map]
  cases l[i]? <;> simp
 refine ⟨by simp; omega, by simp; omega, fun i hi => ?_, fun i hi j hj m hm => ?_⟩
 ·
  obtain ⟨a, ha, hb⟩ := Qjs (hn i (by simpa using hi))
  rw [hl, ha]; simpa using hb
 ·
  have hi' : i < l.length := by simpa using hi
  have ho := hn i hi'
  obtain ⟨a, ha, hb⟩ := Qjs ho
  simp only [okAt, Bool.and_eq_true, List.all_eq_true, List.mem_range, Bool.or_eq_true, Bool.not_eq_true', beq_iff_eq] at ho
  rw [hl] at hj hm ⊢
  have hji : j < i := by rw [ha] at hj; exact Qe1 hb (by simpa using hj)
  rcases ho.2 j hji with hz | hz
  ·
   rw [hj] at hz; cases hz
  ·
   exact Qgt.mp hz m hm
theorem Qev {p:List Nat} (g:Good p):Qej (toI p)=true:=by
 simp only [Qej, Bool.and_eq_true, Qdc, List.all_eq_true, List.mem_range'_1, toI_len]
 have hl : ∀ i, (toI p).getD i 0 = (less p i : Int) := fun i => by
  have := Qez p i
  simpa [rd] using this
 have gp := g.pos
 have gl := g.le
 refine ⟨⟨by omega, by omega⟩, fun i hi => ?_⟩
 have hi' : i < p.length := by omega
 have h1 := g.lt i hi'
 simp only [okAt, Bool.and_eq_true, Qdc, List.all_eq_true, List.mem_range, Bool.or_eq_true, Bool.not_eq_true', beq_iff_eq, hl, Int.toNat_natCast]
 refine ⟨⟨by omega, by omega⟩, fun j hj => ?_⟩
 cases hb : (less p i).testBit j
 ·
  exact .inl rfl
 ·
  exact .inr (Qgt.mpr fun m hm => g.tr i hi' j hb m hm)
def Qcp (m:Nat):List Nat:=(List.range 10).filter fun e=>m.testBit e
theorem Qhe {m e:Nat} :e ∈ Qcp m ↔ e<10∧m.testBit e=true:=by simp [Qcp]
theorem Qfb (m:Nat):(Qcp m).length≤10:=by
 have := List.length_filter_le (fun e => m.testBit e) (List.range 10)
 simpa [Qcp] using this
def Qc9 {α:Type} (n s:Nat) (f:α→Nat→α) (a:α):α:=(List.range n).foldl (fun a e=>if s.testBit e=true then f a e else a) a
theorem Qnl {α:Type} (s:Nat) (f:α→Nat→α) (a:α):(Qcp s).foldl f a=Qc9 10 s f a:=by
 unfold Qcp Qc9; rw [List.foldl_filter]
theorem Qkd {α:Type} (s:Nat) (f:α→Nat→α): ∀ (l:List Nat) (a:α),(∀ e ∈ l,s.testBit e=false)→l.foldl (fun a e=>if s.testBit e=true then f a e else a) a=a
 | [], _, _ => rfl
 | x :: l, a, h => by
  rw [List.foldl_cons, if_neg (by rw [h x List.mem_cons_self]; simp)]
  exact Qkd s f l a fun e he => h e (List.mem_cons_of_mem _ he)
theorem Qi5 {α:Type} {n m s:Nat} (f:α→Nat→α) (a:α) (h:s<2 ^ n) (hm:n≤m):Qc9 m s f a=Qc9 n s f a:=by
 unfold Qc9
 obtain ⟨d, rfl⟩ := Nat.exists_eq_add_of_le hm
 rw [List.range_add, List.foldl_append]
 apply Qkd
 intro e he
 simp only [List.mem_map, List.mem_range] at he
 obtain ⟨x, _, rfl⟩ := he
 exact Nat.testBit_lt_two_pow (Nat.lt_of_lt_of_le h (Nat.pow_le_pow_right (by decide) (by omega)))
theorem Qfj {α:Type} {n s:Nat} (f:α→Nat→α) (a:α) (h:s<2 ^ n) (hn:n≤10):(Qcp s).foldl f a=Qc9 n s f a:=by
 rw [Qnl, Qi5 f a h hn]
theorem Qfi {α:Type} (n s:Nat) (f:α→Nat→α) (a:α):Qc9 (n+1) s f a=if s.testBit n=true then f (Qc9 n s f a) n else Qc9 n s f a:=by
 unfold Qc9; rw [List.range_succ, List.foldl_append]; rfl
theorem Qgy {α:Type} (n s:Nat) (f:α→Nat→α) (a:α) (I:α→Prop) (h0:I a) (h: ∀ a e,I a→e<n→s.testBit e=true→I (f a e)):I (Qc9 n s f a):=by
 induction n with
 | zero => exact h0
 | succ n ih =>
  have ih := ih fun a e ha he hs => h a e ha (by omega) hs
  rw [Qfi]
  split
  ·
   exact h _ _ ih (by omega) (by assumption)
  ·
   exact ih
def full (p:List Nat):Nat:=2 ^ p.length - 1
theorem Qgq (p:List Nat):full p<2 ^ p.length:=by have:=Nat.two_pow_pos p.length;unfold full;omega
theorem Qgz (p:List Nat) (i:Nat):(full p).testBit i=decide (i<p.length):=by unfold full;rw [Nat.testBit_two_pow_sub_one]
def Qfw (p:List Nat) (s:Nat):Nat:=Qc9 p.length s (fun o e=>o|||less p e) s
theorem close_lt {p:List Nat} (g:Good p) {s:Nat} (h:s<2 ^ p.length):Qfw p s<2 ^ p.length:=
 Qgy _ _ _ _ (· < 2 ^ p.length) h (fun a e ha _ _ => Nat.or_lt_two_pow ha (g.lt10 e))
theorem Qkb (p:List Nat) (s a i:Nat): ∀ n,(Qc9 n s (fun o e=>o|||less p e) a).testBit i=true ↔ (a.testBit i=true∨ ∃ e,e<n∧s.testBit e=true∧(less p e).testBit i=true)
 | 0 => by simp [Qc9]
 | n + 1 => by
  rw [Qfi]
  have ih := Qkb p s a i n
  split
  ·
   rename_i hs
   rw [Nat.testBit_or, Bool.or_eq_true, ih]
   constructor
   ·
    rintro ((h | ⟨e, h1, h2, h3⟩) | h)
    ·
     exact .inl h
    ·
     exact .inr ⟨e, by omega, h2, h3⟩
    ·
     exact .inr ⟨n, by omega, hs, h⟩
   ·
    rintro (h | ⟨e, h1, h2, h3⟩)
    ·
     exact .inl (.inl h)
    ·
     by_cases he : e = n
     ·
      subst he; exact .inr h3
     ·
      exact .inl (.inr ⟨e, by omega, h2, h3⟩)
  ·
   rename_i hs
   rw [ih]
   constructor
   ·
    rintro (h | ⟨e, h1, h2, h3⟩)
    ·
     exact .inl h
    ·
     exact .inr ⟨e, by omega, h2, h3⟩
   ·
    rintro (h | ⟨e, h1, h2, h3⟩)
    ·
     exact .inl h
    ·
     by_cases he : e = n
     ·
      subst he; exact absurd h2 hs
     ·
      exact .inr ⟨e, by omega, h2, h3⟩
theorem Qih {p:List Nat} {s i:Nat} (h:s<2 ^ p.length):(Qfw p s).testBit i=true ↔ (s.testBit i=true∨ ∃ e,s.testBit e=true∧(less p e).testBit i=true):=by
 unfold Qfw; rw [Qkb]
 constructor
 ·
  rintro (h1 | ⟨e, _, h1⟩)
  ·
   exact .inl h1
  ·
   exact .inr ⟨e, h1⟩
 ·
  rintro (h1 | ⟨e, h1⟩)
  ·
   exact .inl h1
  ·
   exact .inr ⟨e, Qe1 h h1.1, h1⟩
def IsId (p:List Nat) (s:Nat):Prop:=s<2 ^ p.length∧ ∀ e,s.testBit e=true→ ∀ i,(less p e).testBit i=true→s.testBit i=true
def Qep (p:List Nat) (s:Nat):Bool:=(List.range' 0 p.length).all fun e=> !(s.testBit e)||sd (less p e) s==0
theorem Qe4 {p:List Nat} {s:Nat} (h:s<2 ^ p.length):Qep p s=true ↔ IsId p s:=by
 simp only [Qep, IsId, List.all_eq_true, List.mem_range'_1, Bool.or_eq_true, Bool.not_eq_true', beq_iff_eq, Qgt]
 constructor
 ·
  intro h1
  refine ⟨h, fun e he => ?_⟩
  rcases h1 e ⟨by omega, by have := Qe1 h he; omega⟩ with h2 | h2
  ·
   rw [he] at h2; cases h2
  ·
   exact h2
 ·
  rintro ⟨_, h1⟩ e _
  cases he : s.testBit e
  ·
   exact .inl rfl
  ·
   exact .inr (h1 e he)
theorem Qgx {p:List Nat} {s:Nat} (h:s<2 ^ p.length):Qfw p s=s ↔ IsId p s:=by
 constructor
 ·
  intro hc
  refine ⟨h, fun e he i hi => ?_⟩
  rw [← hc]; exact (Qih h).mpr (.inr ⟨e, he, hi⟩)
 ·
  rintro ⟨_, hi⟩
  apply Nat.eq_of_testBit_eq
  intro i
  rw [Bool.eq_iff_iff, Qih h]
  constructor
  ·
   rintro (h1 | ⟨e, h1, h2⟩)
   ·
    exact h1
   ·
    exact hi e h1 i h2
  ·
   exact .inl
theorem Qot {p:List Nat} {s:Nat} (h:s<2 ^ p.length):(Qfw p s==s)=Qep p s:=by
 rw [Bool.eq_iff_iff, beq_iff_eq, Qgx h, Qe4 h]
end Go.Proofs.Ytkgngggppcmpfaa.M
end
section
namespace Go.Proofs.Ytkgngggppcmpfaa.M
open Go.RowKit Go.Proofs.YtkgngggppcmpfaaW.PrintWords Go.Proofs.YtkgngggppcmpfaaW.PrintLast Go.Proofs.YtkgngggppcmpfaaW.PrintMore Go.Proofs.Ytkgngggppcmpfaa.L
theorem Qgf (x lo hi:Int):Qcn.f x lo hi=some (inB x lo hi):=by
 unfold Qcn.f inB
 by_cases h : lo ≤ x <;> simp [h]
theorem Qei (x lo hi:Int):Qcd.f x lo hi=some (inB x lo hi):=by
 unfold Qcd.f inB
 by_cases h : lo ≤ x <;> simp [h]
theorem Qmw (l:List Int) (lo hi:Int) (hl:l.length≤9223372036854775806): ∀ (d i:Nat),i+d=l.length→Ev (fun k=>Qcm.l0 k lo hi l (l.length:Int) i) ((l.drop i).all (inB · lo hi))
 | 0, i, h => by
  refine Ev.step (fun _ => rfl) (Q2 (by omega) ?_)
  rw [List.drop_of_length_le (by omega)]; exact Ev.now _
 | d + 1, i, h => by
  refine Ev.step (fun _ => rfl) (Qk (by omega) (Qk (by omega) (Qk (by omega) (Q5 (Qgf _ _ _) ?_))))
  rw [Qer (by omega : i < l.length), Qbv (by omega), List.drop_eq_getElem_cons (by omega : i < l.length), List.all_cons]
  refine Qcg (fun e => ?_) (fun e => ?_)
  ·
   rw [e, Bool.true_and]; exact Qmw l lo hi hl d (i + 1) (by omega)
  ·
   rw [Bool.eq_false_iff.mpr e, Bool.false_and]; exact Ev.now _
theorem l1All_ev (l:List Int) (lo hi:Int) (hl:l.length≤9223372036854775806):Ev (fun k=>Qcm.f k l lo hi) (l.all (inB · lo hi)):=Qmw l lo hi hl l.length 0 (by omega)
end Go.Proofs.Ytkgngggppcmpfaa.M
end
section
namespace Go.Proofs.Ytkgngggppcmpfaa.M
open Go.RowKit Go.Proofs.YtkgngggppcmpfaaW.PrintWords Go.Proofs.YtkgngggppcmpfaaW.PrintLast Go.Proofs.YtkgngggppcmpfaaW.PrintMore Go.Proofs.Ytkgngggppcmpfaa.L
set_option linter.unusedVariables false
theorem Qmq {s e:Nat} (hs:s<2 ^ 63) (he:e≤64):Qel.f (s:Int) (e:Int)=some (s.testBit e):=by
 unfold Qel.f; rw [if_pos (by omega), bit_and hs he]
theorem Qgh {s e:Nat} (he:e≤64):Qch.f (s:Int) (e:Int)=some (s.testBit e):=by
 unfold Qch.f; rw [if_pos (by omega), Qnt he]
theorem Qjo (s:Nat) (hs:s<2 ^ 63): ∀ (d i:Nat) (acc:List Nat),i+d=10→acc.length≤i→Ev (fun k=>Qbr.l0 k (s:Int) (toI acc) (i:Int)) (toI (acc++(List.range' i d).filter fun e=>s.testBit e))
 | 0, i, acc, h, ha => by
  refine Ev.step (fun _ => Qbr.l0.eq_2 ..) (Q2 (by omega) ?_)
  simpa using Ev.now _
 | d + 1, i, acc, h, ha => by
  refine Ev.step (fun _ => Qbr.l0.eq_2 ..) (Qk (by omega) (Q5 (Qmq hs (by omega)) ?_))
  rw [Qbv (by omega), List.range'_succ]
  refine Qcg (fun e => Qk (by rw [toI_len]; omega) ?_) (fun e => ?_)
  ·
   rw [← Qe8, ← Qe7, List.filter_cons_of_pos e]
   have := Qjo s hs d (i + 1) (acc ++ [i]) (by omega) (by simp; omega)
   simpa using this
  ·
   rw [List.filter_cons_of_neg e]
   exact Qjo s hs d (i + 1) acc (by omega) (by omega)
theorem Qfz {s:Nat} (hs:s<2 ^ 63):Ev (fun k=>Qbr.f k (s:Int)) (toI (Qcp s)):=by
 have h := Qjo s hs 10 0 [] (by omega) (by simp)
 rw [List.nil_append, ← List.range_eq_range'] at h
 exact h
theorem n_eq (l:List Int):Qb1.f l=some (l.length:Int):=rfl
theorem Qj6 {p:List Nat} (h:p.length≤10):Qc0.f (toI p)=some ((full p:Nat):Int):=by
 unfold Qc0.f
 rw [n_eq, Option.bind_some, if_pos (by omega), toI_len, Qh6 (by omega)]; rfl
theorem Qlk {m i:Nat} (hm:m<2 ^ i) (hi:i≤10) (g:Nat→Bool):(Qcp m).all g=(List.range i).all fun j=> !(m.testBit j)||g j:=by
 rw [Bool.eq_iff_iff]
 simp only [List.all_eq_true, Qhe, List.mem_range, Bool.or_eq_true, Bool.not_eq_true']
 constructor
 ·
  intro h j hj
  cases hb : m.testBit j
  ·
   exact .inl rfl
  ·
   exact .inr (h j ⟨by omega, hb⟩)
 ·
  rintro h j ⟨_, hb⟩
  rcases h j (Qe1 hm hb) with h2 | h2
  ·
   rw [hb] at h2; cases h2
  ·
   exact h2
theorem Qf3 {i:Nat} (h:i≤10):2 ^ i≤1024:=by
 have := Nat.pow_le_pow_right (n := 2) (by decide) h
 simpa using this
theorem Qf4 (l:List Int) (i:Nat):rd l (i:Int)=l.getD i 0:=by simp [rd]
theorem Qkj (l:List Int) (i m:Nat) (R:Bool) (hl:l.length≤10) (hi:i<l.length) (hm:m<2 ^ i) (ok: ∀ j,j<i→ ∃ a:Nat,l.getD j 0=(a:Int)∧a<2 ^ j)
  (hR : Ev (fun k => Q6.l0 k l (l.length : Int) ((i + 1 : Nat) : Int) l) R) : ∀ (d q : Nat), q + d = (Qcp m).length →
  Ev (fun k => Q6.l1 k (m : Int) l (l.length : Int) (i : Int) (toI (Qcp m)) ((toI (Qcp m)).length : Int) (q : Int) l) (((Qcp m).drop q).all (fun j => sd (l.getD j 0).toNat m == 0) && R)
 | 0, q, h => by
  refine Ev.step (fun _ => Q6.l1.eq_2 ..) (Q2 (by rw [toI_len]; omega) ?_)
  rw [List.drop_of_length_le (by omega), List.all_nil, Bool.true_and, Qbv (by omega)]
  exact hR
 | d + 1, q, h => by
  have hq : q < (Qcp m).length := by omega
  have hj : (Qcp m)[q] ∈ Qcp m := List.getElem_mem hq
  obtain ⟨_, hb⟩ := Qhe.mp hj
  have hji := Qe1 hm hb
  obtain ⟨a, ha, ha2⟩ := ok _ hji
  have e1 : rd (toI (Qcp m)) (q : Int) = (((Qcp m)[q] : Nat) : Int) := by rw [Qek]; simp [List.getD_eq_getElem?_getD, hq]
  have hlen := Qfb m
  have hp1 := Qf3 (show i ≤ 10 by omega)
  have hp2 := Qf3 (show (Qcp m)[q] ≤ 10 by omega)
  refine Ev.step (fun _ => Q6.l1.eq_2 ..) ?_
  rw [e1]
  refine Qk (by rw [toI_len]; omega) (Qk (by omega) (Qk (by rw [toI_len]; omega) (Qk (by omega) (Qk (by omega) ?_))))
  rw [Qf4, ha, Qd4 (lt63 ha2 (by omega)) (lt63 hm (by omega)), Qbv (by omega), List.drop_eq_getElem_cons hq, List.all_cons, ha, Int.toNat_natCast]
  refine Qcg (fun e => ?_) (fun e => ?_)
  ·
   have e' : sd a m = 0 := by omega
   rw [e', beq_self_eq_true, Bool.true_and]
   exact Qkj l i m R hl hi hm ok hR d (q + 1) (by omega)
  ·
   have e' : (sd a m == 0) = false := by rw [beq_eq_false_iff_ne]; omega
   rw [e', Bool.false_and, Bool.false_and]
   exact Ev.now _
theorem Qki (l:List Int) (hl:l.length≤10): ∀ (d i:Nat),i+d=l.length→(∀ j,j<i→ ∃ a:Nat,l.getD j 0=(a:Int)∧a<2 ^ j)→
  Ev (fun k => Q6.l0 k l (l.length : Int) (i : Int) l) ((List.range' i d).all (okAt l))
 | 0, i, h, ok => by
  refine Ev.step (fun _ => Q6.l0.eq_2 ..) (Q2 (by omega) ?_)
  exact Ev.now _
 | d + 1, i, h, ok => by
  have hp1 := Qf3 (show i ≤ 10 by omega)
  have hpos := Nat.two_pow_pos i
  refine Ev.step (fun _ => Q6.l0.eq_2 ..) (Qk (by omega) (Qk (by omega) (Qk (by omega) (Q5 (Qei _ _ _) ?_))))
  rw [Qf4, Qh6 (by omega), List.range'_succ, List.all_cons, Qm7 l i]
  refine Qcg (fun e => ?_) (fun e => ?_)
  ·
   have b := Qdc.mp e
   obtain ⟨m, hm⟩ : ∃ m : Nat, l.getD i 0 = (m : Int) := ⟨(l.getD i 0).toNat, by omega⟩
   rw [e, Bool.true_and, hm]
   have hm2 : m < 2 ^ i := by omega
   refine Ev.bind (Qfz (lt63 hm2 (by omega))) ?_
   have hnx := Qki l hl d (i + 1) (by omega) (fun j hj => by
    by_cases hji : j = i
    ·
     subst hji; exact ⟨m, hm, hm2⟩
    ·
     exact ok j (by omega))
   have := Qkj l i m _ hl (by omega) hm2 ok hnx (Qcp m).length 0 (by omega)
   rw [List.drop_zero, Qlk hm2 (by omega)] at this
   simpa using this
  ·
   rw [Bool.eq_false_iff.mpr e, Bool.false_and, Bool.false_and]
   exact Ev.now _
theorem Qen (l:List Int):Ev (fun k=>Q6.f k l) (Qej l):=by
 refine Q5 (n_eq l) (Q5 (Qei _ _ _) ?_)
 unfold Qej
 refine Qcg (fun e => ?_) (fun e => ?_)
 ·
  have b := Qdc.mp e
  rw [e, Bool.true_and]
  exact Qki l (by omega) l.length 0 (by omega) (fun j hj => by omega)
 ·
  rw [Bool.eq_false_iff.mpr e, Bool.false_and]; exact Ev.now _
theorem Qls (l:List Int) (i m:Nat) (R:Bool) (hl:l.length≤10) (hi:i<l.length) (hm:m<2 ^ i) (ok: ∀ j,j<i→ ∃ a:Nat,l.getD j 0=(a:Int)∧a<2 ^ j)
  (hR : Ev (fun k => Qx.l0 k l (l.length : Int) ((i + 1 : Nat) : Int) l) R) : ∀ (d j : Nat), j + d = i →
  Ev (fun k => Qx.l1 k (i : Int) (m : Int) (j : Int) l (l.length : Int) (i : Int) l) ((List.range' j d).all (fun j => !(m.testBit j) || sd (l.getD j 0).toNat m == 0) && R)
 | 0, j, h => by
  refine Ev.step (fun _ => Qx.l1.eq_2 ..) (Q2 (by omega) ?_)
  rw [Qbv (by omega)]
  simpa using hR
 | d + 1, j, h => by
  obtain ⟨a, ha, ha2⟩ := ok j (by omega)
  have hp1 := Qf3 (show i ≤ 10 by omega)
  have hp2 := Qf3 (show j ≤ 10 by omega)
  have ih := Qls l i m R hl hi hm ok hR d (j + 1) (by omega)
  refine Ev.step (fun _ => Qx.l1.eq_2 ..) (Qk (by omega) (Qk (by omega) ?_))
  rw [Qbv (by omega), List.range'_succ, List.all_cons, Qf4, ha, Qd4 (lt63 ha2 (by omega)) (lt63 hm (by omega)), Int.toNat_natCast]
  refine Qcg (fun e => ?_) (fun e => ?_)
  ·
   rw [Qmb (by omega)] at e
   rw [e, Bool.not_true, Bool.false_or]
   refine Qk (by omega) (Qcg (fun e => ?_) (fun e => ?_))
   ·
    have e' : sd a m = 0 := by omega
    rw [e', beq_self_eq_true, Bool.true_and]; exact ih
   ·
    have e' : (sd a m == 0) = false := by rw [beq_eq_false_iff_ne]; omega
    rw [e', Bool.false_and, Bool.false_and]; exact Ev.now _
  ·
   rw [Qmb (by omega)] at e
   rw [Bool.eq_false_iff.mpr e, Bool.not_false, Bool.true_or, Bool.true_and]; exact ih
theorem Qlr (l:List Int) (hl:l.length≤10): ∀ (d i:Nat),i+d=l.length→(∀ j,j<i→ ∃ a:Nat,l.getD j 0=(a:Int)∧a<2 ^ j)→
  Ev (fun k => Qx.l0 k l (l.length : Int) (i : Int) l) ((List.range' i d).all (okAt l))
 | 0, i, h, ok => by
  refine Ev.step (fun _ => Qx.l0.eq_2 ..) (Q2 (by omega) ?_)
  exact Ev.now _
 | d + 1, i, h, ok => by
  have hp1 := Qf3 (show i ≤ 10 by omega)
  have hpos := Nat.two_pow_pos i
  refine Ev.step (fun _ => Qx.l0.eq_2 ..) (Qk (by omega) (Qk (by omega) (Qk (by omega) (Q5 (Qgf _ _ _) ?_))))
  rw [Qf4, Qh6 (by omega), List.range'_succ, List.all_cons, Qm7 l i]
  refine Qcg (fun e => ?_) (fun e => ?_)
  ·
   have b := Qdc.mp e
   obtain ⟨m, hm⟩ : ∃ m : Nat, l.getD i 0 = (m : Int) := ⟨(l.getD i 0).toNat, by omega⟩
   rw [e, Bool.true_and, hm]
   have hm2 : m < 2 ^ i := by omega
   have hnx := Qlr l hl d (i + 1) (by omega) (fun j hj => by
    by_cases hji : j = i
    ·
     subst hji; exact ⟨m, hm, hm2⟩
    ·
     exact ok j (by omega))
   have := Qls l i m _ hl (by omega) hm2 ok hnx i 0 (by omega)
   simpa [List.range_eq_range'] using this
  ·
   rw [Bool.eq_false_iff.mpr e, Bool.false_and, Bool.false_and]
   exact Ev.now _
theorem Qd2 (l:List Int):Ev (fun k=>Qx.f k l) (Qej l):=by
 refine Q5 (Qgf _ _ _) ?_
 unfold Qej
 refine Qcg (fun e => ?_) (fun e => ?_)
 ·
  have b := Qdc.mp e
  rw [e, Bool.true_and]
  exact Qlr l (by omega) l.length 0 (by omega) (fun j hj => by omega)
 ·
  rw [Bool.eq_false_iff.mpr e, Bool.false_and]; exact Ev.now _
def setB (l:List Int) (s:Int):Bool:=Qej l && inB s 0 ((2 ^ l.length - 1:Nat):Int)
def idB (l:List Int) (s:Int):Bool:=setB l s && Qep (l.map Int.toNat) s.toNat
theorem Qk5 {l:List Int} {s:Int} (h:setB l s=true): ∃ (p:List Nat) (t:Nat),l=toI p∧s=(t:Int)∧Good p∧t<2 ^ p.length:=by
 simp only [setB, Bool.and_eq_true, Qdc] at h
 obtain ⟨p, rfl, g⟩ := Qd8 h.1
 have := Nat.two_pow_pos p.length
 rw [toI_len] at h
 exact ⟨p, s.toNat, rfl, by omega, g, by omega⟩
theorem Qd3 (p:List Nat):(toI p).map Int.toNat=p:=by
 simp only [toI, List.map_map]
 exact (List.map_congr_left (fun x _ => by simp)).trans (List.map_id p)
theorem Qmt {l:List Int} {s:Int} (h:idB l s=true): ∃ (p:List Nat) (t:Nat),l=toI p∧s=(t:Int)∧Good p∧IsId p t:=by
 simp only [idB, Bool.and_eq_true] at h
 obtain ⟨p, t, rfl, rfl, g, ht⟩ := Qk5 h.1
 have h2 := h.2
 rw [Qd3, Int.toNat_natCast] at h2
 exact ⟨p, t, rfl, rfl, g, (Qe4 ht).mp h2⟩
theorem Qn1 {p:List Nat} {t:Nat} (g:Good p) (ht:t<2 ^ p.length):setB (toI p) (t:Int)=true:=by
 simp only [setB, Bool.and_eq_true, Qdc, toI_len]
 exact ⟨Qev g, by omega, by omega⟩
theorem Qms {p:List Nat} {t:Nat} (g:Good p) (ht:IsId p t):idB (toI p) (t:Int)=true:=by
 simp only [idB, Bool.and_eq_true]
 refine ⟨Qn1 g ht.1, ?_⟩
 rw [Qd3, Int.toNat_natCast]; exact (Qe4 ht.1).mpr ht
theorem Good.len63 {p:List Nat} (g:Good p) {s:Nat} (h:s<2 ^ p.length):s<2 ^ 63:=M.lt63 h (by have:=g.le;omega)
theorem Qmv (l:List Int) (s:Int):Ev (fun k=>Qdm.f k l s) (setB l s):=by
 refine Ev.bind (Qen l) ?_
 unfold setB
 refine Qcg (fun e => ?_) (fun e => ?_)
 ·
  obtain ⟨p, rfl, g⟩ := Qd8 e
  rw [e, Bool.true_and, toI_len]
  exact Q5 (Qj6 g.le) (Q5 (Qei _ _ _) (Ev.now _))
 ·
  rw [Bool.eq_false_iff.mpr e, Bool.false_and]; exact Ev.now _
theorem Qgj {m q:Nat} (hq:q<(Qcp m).length):(Qcp m)[q] <10∧m.testBit (Qcp m)[q] =true:=Qhe.mp (List.getElem_mem hq)
theorem Qg4 {m q:Nat} (hq:q<(Qcp m).length):rd (toI (Qcp m)) (q:Int)=(((Qcp m)[q] :Nat):Int):=by rw [Qek];simp [List.getD_eq_getElem?_getD,hq]
theorem Qme {p:List Nat} (g:Good p) (s:Nat) (hs:s<2 ^ p.length): ∀ (d q a:Nat),q+d=(Qcp s).length→a<2 ^ p.length→
  Ev (fun k => Q9.l0 k (a : Int) (toI (Qcp s)) ((toI (Qcp s)).length : Int) (q : Int) (toI p)) (((((Qcp s).drop q).foldl (fun o e => o ||| less p e) a : Nat)) : Int)
 | 0, q, a, h, ha => by
  refine Ev.step (fun _ => Q9.l0.eq_2 ..) (Q2 (by rw [toI_len]; omega) ?_)
  rw [List.drop_of_length_le (by omega)]; exact Ev.now _
 | d + 1, q, a, h, ha => by
  have hq : q < (Qcp s).length := by omega
  have hm := Qgj hq
  have hb := Qe1 hs hm.2
  have hl := Qfb s
  refine Ev.step (fun _ => Q9.l0.eq_2 ..) ?_
  rw [Qg4 hq, toI_len, toI_len]
  refine Qk (by omega) (Qk (by omega) (Qk (by omega) (Qk (by omega) (Qk (by omega) ?_))))
  rw [Qez, Qhn (g.len63 ha) (g.lt63 _), Qbv (by omega), List.drop_eq_getElem_cons hq, List.foldl_cons, ← toI_len]
  exact Qme g s hs d (q + 1) _ (by omega) (Nat.or_lt_two_pow ha (g.lt10 _))
theorem Qh0 {p:List Nat} (g:Good p) {s:Nat} (hs:s<2 ^ p.length):Ev (fun k=>Q9.f k (toI p) (s:Int)) ((Qfw p s:Nat):Int):=by
 refine Ev.bind (Qfz (g.len63 hs)) ?_
 have h := Qme g s hs (Qcp s).length 0 s (by omega) hs
 rw [List.drop_zero, Qfj _ _ hs g.le] at h
 exact h
theorem Qfr (l:List Int) (s:Int):Ev (fun k=>Qcr.f k l s) (idB l s):=by
 refine Ev.bind (Qmv l s) ?_
 unfold idB
 refine Qcg (fun e => ?_) (fun e => ?_)
 ·
  obtain ⟨p, t, rfl, rfl, g, ht⟩ := Qk5 e
  rw [e, Bool.true_and, Qd3, Int.toNat_natCast, ← Qot ht]
  refine Ev.bind (Qh0 g ht) ?_
  have : (((Qfw p t : Nat) : Int) == (t : Int)) = (Qfw p t == t) := by
   rw [Bool.eq_iff_iff, beq_iff_eq, beq_iff_eq]; omega
  rw [this]; exact Ev.now _
 ·
  rw [Bool.eq_false_iff.mpr e, Bool.false_and]; exact Ev.now _
theorem Qh3 (p:List Nat) (s:Int) (h:p.length≤10):Qdk.f (toI p) s=some (inB s 0 ((2 ^ p.length - 1:Nat):Int)):=by
 unfold Qdk.f; rw [toI_len, Qh6 (by omega), Qgf]; rfl
theorem Qkq {p:List Nat} (g:Good p) (s:Nat) (hs:s<2 ^ p.length): ∀ (d i:Nat),i+d=p.length→
  Ev (fun k => Qbx.l0 k (s : Int) (toI p) ((toI p).length : Int) (i : Int)) ((List.range' i d).all fun e => !(s.testBit e) || sd (less p e) s == 0)
 | 0, i, h => by
  refine Ev.step (fun _ => Qbx.l0.eq_2 ..) (Q2 (by rw [toI_len]; omega) (Ev.now _))
 | d + 1, i, h => by
  have := g.le
  have ih := Qkq g s hs d (i + 1) (by omega)
  refine Ev.step (fun _ => Qbx.l0.eq_2 ..) ?_
  refine Qk (by rw [toI_len]; omega) (Qk (by omega) (Qk (by rw [toI_len]; omega) (Q5 (Qgh (by omega)) ?_)))
  rw [Qez, Qd4 (g.lt63 _) (g.len63 hs), Qbv (by omega), List.range'_succ, List.all_cons]
  refine Qcg (fun e => ?_) (fun e => ?_)
  ·
   rw [e, Bool.not_true, Bool.false_or]
   refine Qcg (fun e => ?_) (fun e => ?_)
   ·
    have e' : sd (less p i) s = 0 := by omega
    rw [e', beq_self_eq_true, Bool.true_and]; exact ih
   ·
    have e' : (sd (less p i) s == 0) = false := by rw [beq_eq_false_iff_ne]; omega
    rw [e', Bool.false_and]; exact Ev.now _
  ·
   rw [Bool.eq_false_iff.mpr e, Bool.not_false, Bool.true_or, Bool.true_and]; exact ih
theorem Qh2 {p:List Nat} (g:Good p) {s:Nat} (hs:s<2 ^ p.length):Ev (fun k=>Qbx.f k (toI p) (s:Int)) (Qep p s):=Qkq g s hs p.length 0 (by omega)
theorem Qk7 (l:List Int) (s:Int):Ev (fun k=>Qec.f k l s) (idB l s):=by
 refine Ev.bind (Qd2 l) ?_
 unfold idB setB
 refine Qcg (fun e => ?_) (fun e => ?_)
 ·
  obtain ⟨p, rfl, g⟩ := Qd8 e
  rw [e, Bool.true_and, toI_len, Qd3]
  refine Q5 (Qh3 p s g.le) (Qcg (fun e => ?_) (fun e => ?_))
  ·
   have b := Qdc.mp e
   have := Nat.two_pow_pos p.length
   obtain ⟨t, rfl⟩ : ∃ t : Nat, s = (t : Int) := ⟨s.toNat, by omega⟩
   rw [e, Bool.true_and, Int.toNat_natCast]
   exact Ev.bind (Qh2 g (by omega)) (Ev.now _)
  ·
   rw [Bool.eq_false_iff.mpr e, Bool.false_and]; exact Ev.now _
 ·
  rw [Bool.eq_false_iff.mpr e, Bool.false_and, Bool.false_and]; exact Ev.now _
def Qhs (p:List Nat) (x:List Int) (i:Nat):Bool:=(List.range i).all fun j=> !((less p i).testBit j)||decide (x.getD j 0≤x.getD i 0)
def arrB (p:List Nat) (x:List Int) (b:Int):Bool:=x.all (inB · 0 b) && (List.range' 0 p.length).all (Qhs p x)
structure Arr (p y : List Nat) (b : Nat) : Prop where
 len : y.length = p.length
 hi : ∀ i, y.getD i 0 ≤ b
 up : ∀ i j, (less p i).testBit j = true → y.getD j 0 ≤ y.getD i 0
theorem Qoo {x:List Int} {b:Int} (h:x.all (inB · 0 b)=true):x=toI (x.map Int.toNat):=by
 simp only [List.all_eq_true, Qdc] at h
 simp only [toI, List.map_map]
 conv => lhs; rw [← List.map_id x]
 apply List.map_congr_left
 intro a ha
 have := h a ha
 simp; omega
theorem Qjy (y:List Nat) (i:Nat):(toI y).getD i 0=((y.getD i 0:Nat):Int):=by
 have := Qek y i
 simpa [rd] using this
theorem getD_mem {y:List Nat} {i:Nat} (h:i<y.length):y.getD i 0 ∈ y:=by
 rw [List.getD_eq_getElem?_getD, List.getElem?_eq_getElem h]; exact List.getElem_mem h
theorem arrB_of {p:List Nat} {x:List Int} {b:Nat} (g:Good p) (hl:x.length=p.length) (h:arrB p x (b:Int)=true): ∃ y,x=toI y∧Arr p y b:=by
 simp only [arrB, Bool.and_eq_true] at h
 have e := Qoo h.1
 refine ⟨x.map Int.toNat, e, by simpa using hl, fun i => ?_, fun i j hj => ?_⟩
 ·
  have h1 := h.1
  simp only [List.all_eq_true, Qdc] at h1
  by_cases hi : i < (x.map Int.toNat).length
  ·
   obtain ⟨a, ha, e2⟩ := List.mem_map.mp (getD_mem hi)
   have := h1 a ha
   omega
  ·
   rw [List.getD_eq_getElem?_getD, List.getElem?_eq_none (by omega)]; simp
 ·
  have hb := g.bit hj
  have h2 := h.2
  simp only [List.all_eq_true, List.mem_range'_1, Qhs, List.mem_range, Bool.or_eq_true, Bool.not_eq_true', decide_eq_true_eq] at h2
  rcases h2 i ⟨by omega, by omega⟩ j hb.1 with h3 | h3
  ·
   rw [hj] at h3; cases h3
  ·
   rw [e, Qjy, Qjy] at h3; omega
theorem Qns {p y:List Nat} {b:Nat} (h:Arr p y b):arrB p (toI y) (b:Int)=true:=by
 simp only [arrB, Bool.and_eq_true, List.all_eq_true, List.mem_range'_1, Qhs, List.mem_range, Bool.or_eq_true, Bool.not_eq_true', decide_eq_true_eq, Qdc, Qjy]
 refine ⟨fun a ha => ?_, fun i hi j hj => ?_⟩
 ·
  obtain ⟨n, hn, rfl⟩ := List.mem_map.mp ha
  obtain ⟨i, hi, rfl⟩ := List.mem_iff_getElem.mp hn
  have := h.hi i
  rw [List.getD_eq_getElem?_getD, List.getElem?_eq_getElem hi] at this
  simp at this
  exact ⟨by omega, by omega⟩
 ·
  cases hb : (less p i).testBit j
  ·
   exact .inl rfl
  ·
   exact .inr (by have := h.up i j hb; omega)
def Qe0 (l x:List Int) (b:Int):Bool:=Qej l && inB b 0 20 && decide (x.length=l.length) && arrB (l.map Int.toNat) x b
theorem Qha {l x:List Int} {b:Int} (h:Qe0 l x b=true): ∃ (p y:List Nat) (c:Nat),l=toI p∧x=toI y∧b=(c:Int)∧Good p∧c≤20∧Arr p y c:=by
 simp only [Qe0, Bool.and_eq_true, decide_eq_true_eq, Qdc] at h
 obtain ⟨⟨⟨h1, h2⟩, h3⟩, h4⟩ := h
 obtain ⟨p, rfl, g⟩ := Qd8 h1
 obtain ⟨c, rfl⟩ : ∃ c : Nat, b = (c : Int) := ⟨b.toNat, by omega⟩
 rw [Qd3] at h4
 obtain ⟨y, rfl, ha⟩ := arrB_of g (by simpa using h3) h4
 exact ⟨p, y, c, rfl, rfl, rfl, g, by omega, ha⟩
theorem Qie {p y:List Nat} {b:Nat} (g:Good p) (hb:b≤20) (h:Arr p y b):Qe0 (toI p) (toI y) (b:Int)=true:=by
 simp only [Qe0, Bool.and_eq_true, decide_eq_true_eq, Qdc]
 refine ⟨⟨⟨Qev g, by omega, by omega⟩, by simpa using h.len⟩, ?_⟩
 rw [Qd3]; exact Qns h
theorem Qgc (b:Int):Qdj.f b=some (inB b 0 20):=by simp [Qdj.f,Qgf]
theorem Qea (l:List Int) (b:Int):Ev (fun k=>Qcj.f k l b) (Qej l && inB b 0 20):=by
 refine Ev.bind (Qen l) (Qcg (fun e => ?_) (fun e => ?_))
 ·
  rw [e, Bool.true_and]; exact Q5 (Qei _ _ _) (Ev.now _)
 ·
  rw [Bool.eq_false_iff.mpr e, Bool.false_and]; exact Ev.now _
theorem Qkp {p:List Nat} (g:Good p) (x:List Int) (hx:x.length=p.length) (i:Nat) (hi:i<p.length) (R:Bool) (hR:Ev (fun k=>Qbw.l0 k x (toI p) ((toI p).length:Int) ((i+1:Nat):Int)) R): ∀ (d j:Nat),j+d=i→
  Ev (fun k => Qbw.l1 k x (i : Int) ((less p i : Nat) : Int) (j : Int) (toI p) ((toI p).length : Int) (i : Int)) ((List.range' j d).all (fun j => !((less p i).testBit j) || decide (x.getD j 0 ≤ x.getD i 0)) && R)
 | 0, j, h => by
  refine Ev.step (fun _ => Qbw.l1.eq_2 ..) (Q2 (by omega) ?_)
  rw [Qbv (by have := g.le; omega)]; simpa using hR
 | d + 1, j, h => by
  have gl := g.le
  have ih := Qkp g x hx i hi R hR d (j + 1) (by omega)
  refine Ev.step (fun _ => Qbw.l1.eq_2 ..) (Qk (by omega) (Q5 (Qgh (by omega)) ?_))
  rw [Qbv (by omega), List.range'_succ, List.all_cons, Qf4, Qf4]
  refine Qcg (fun e => ?_) (fun e => ?_)
  ·
   rw [e, Bool.not_true, Bool.false_or]
   refine Qk (by omega) (Qk (by omega) (Qk (by omega) (Qk (by omega) (Qcg (fun e => ?_) (fun e => ?_)))))
   ·
    rw [decide_eq_false (by omega), Bool.false_and, Bool.false_and]; exact Ev.now _
   ·
    rw [decide_eq_true (by omega), Bool.true_and]; exact ih
  ·
   rw [Bool.eq_false_iff.mpr e, Bool.not_false, Bool.true_or, Bool.true_and]; exact ih
theorem Qko {p:List Nat} (g:Good p) (x:List Int) (hx:x.length=p.length): ∀ (d i:Nat),i+d=p.length→
  Ev (fun k => Qbw.l0 k x (toI p) ((toI p).length : Int) (i : Int)) ((List.range' i d).all (Qhs p x))
 | 0, i, h => Ev.step (fun _ => Qbw.l0.eq_2 ..) (Q2 (by rw [toI_len]; omega) (Ev.now _))
 | d + 1, i, h => by
  refine Ev.step (fun _ => Qbw.l0.eq_2 ..) (Qk (by rw [toI_len]; omega) (Qk (by omega) (Qk (by rw [toI_len]; omega) ?_)))
  rw [Qez, List.range'_succ, List.all_cons]
  have := Qkp g x hx i (by omega) _ (Qko g x hx d (i + 1) (by omega)) i 0 (by omega)
  rw [← List.range_eq_range'] at this
  exact this
theorem Qol {p:List Nat} (g:Good p) (x:List Int) (b:Int) (hx:x.length=p.length):Ev (fun k=>Qbw.f k (toI p) x b) (arrB p x b):=by
 refine Ev.bind (l1All_ev x 0 b (by have := g.le; omega)) ?_
 unfold arrB
 refine Qcg (fun e => ?_) (fun e => ?_)
 ·
  rw [e, Bool.true_and]; exact Qko g x hx p.length 0 (by omega)
 ·
  rw [Bool.eq_false_iff.mpr e, Bool.false_and]; exact Ev.now _
theorem Qid {p:List Nat} (g:Good p) (x:List Int) (b:Nat) (hb:b≤1000) (hx:x.length=p.length) (i:Nat) (hi:i<p.length) (ok: ∀ j,j<i→inB (x.getD j 0) 0 (b:Int)=true) (R:Bool)
  (hR : Ev (fun k => Qt.l0 k x (b : Int) 0 x (x.length : Int) ((i + 1 : Nat) : Int) (toI p)) R) : ∀ (d q : Nat), q + d = (Qcp (less p i)).length →
  Ev (fun k => Qt.l1 k x (b : Int) 0 (x.getD i 0) x (x.length : Int) (i : Int) (toI (Qcp (less p i))) ((toI (Qcp (less p i))).length : Int) (q : Int) (toI p)) (((Qcp (less p i)).drop q).all (fun j => decide (x.getD j 0 ≤ x.getD i 0)) && R)
 | 0, q, h => by
  refine Ev.step (fun _ => Qt.l1.eq_2 ..) (Q2 (by rw [toI_len]; omega) ?_)
  rw [List.drop_of_length_le (by omega), Qbv (by have := g.le; omega)]; simpa using hR
 | d + 1, q, h => by
  have hq : q < (Qcp (less p i)).length := by omega
  have hm := Qgj hq
  have hj := g.bit hm.2
  have gl := g.le
  have hl := Qfb (less p i)
  have ok' := Qdc.mp (ok _ hj.1)
  have ih := Qid g x b hb hx i hi ok R hR d (q + 1) (by omega)
  refine Ev.step (fun _ => Qt.l1.eq_2 ..) ?_
  rw [Qg4 hq, Qf4, Qbv (by omega), Int.add_zero, Qc1 (by omega) (by omega), List.drop_eq_getElem_cons hq, List.all_cons]
  refine Qk (by rw [toI_len]; omega) (Qk (by omega) (Qk (by rw [toI_len]; omega) (Qk (by omega) (Qk (by omega) (Qcg (fun e => ?_) (fun e => ?_))))))
  ·
   rw [decide_eq_false (by omega), Bool.false_and, Bool.false_and]; exact Ev.now _
  ·
   rw [decide_eq_true (by omega), Bool.true_and]; exact ih
theorem Qic {p:List Nat} (g:Good p) (x:List Int) (b:Nat) (hb:b≤1000) (hx:x.length=p.length): ∀ (d i:Nat),i+d=p.length→(∀ j,j<i→inB (x.getD j 0) 0 (b:Int)=true)→
  Ev (fun k => Qt.l0 k x (b : Int) 0 x (x.length : Int) (i : Int) (toI p)) ((List.range' i d).all (fun i => inB (x.getD i 0) 0 (b : Int) && Qhs p x i))
 | 0, i, h, ok => Ev.step (fun _ => Qt.l0.eq_2 ..) (Q2 (by omega) (Ev.now _))
 | d + 1, i, h, ok => by
  have gl := g.le
  refine Ev.step (fun _ => Qt.l0.eq_2 ..) (Qk (by omega) (Qk (by omega) (Qk (by omega) (Q5 (Qei _ _ _) ?_))))
  rw [Qf4, List.range'_succ, List.all_cons]
  refine Qcg (fun e => ?_) (fun e => ?_)
  ·
   rw [e, Bool.true_and]
   refine Qk (by rw [toI_len]; omega) ?_
   rw [Qez]
   refine Ev.bind (Qfz (g.lt63 i)) ?_
   have hn := Qic g x b hb hx d (i + 1) (by omega) (fun j hj => by
    by_cases hji : j = i
    ·
     subst hji; exact e
    ·
     exact ok j (by omega))
   have := Qid g x b hb hx i (by omega) ok _ hn (Qcp (less p i)).length 0 (by omega)
   rw [List.drop_zero, Qlk (g.lt i (by omega)) (by omega)] at this
   exact this
  ·
   rw [Bool.eq_false_iff.mpr e, Bool.false_and, Bool.false_and]; exact Ev.now _
theorem Qib {p:List Nat} (g:Good p) (x:List Int) (b:Nat) (hb:b≤1000) (hx:x.length=p.length):Ev (fun k=>Qt.f k (toI p) x (b:Int) 0) (arrB p x (b:Int)):=by
 refine Q5 (n_eq _) (Qk (by rw [toI_len]; omega) ?_)
 have h := Qic g x b hb hx p.length 0 (by omega) (fun j hj => by omega)
 have e : (List.range' 0 p.length).all (fun i => inB (x.getD i 0) 0 (b : Int) && Qhs p x i) = arrB p x (b : Int) := by
  unfold arrB
  rw [Bool.eq_iff_iff]
  simp only [Bool.and_eq_true, List.all_eq_true, List.mem_range'_1]
  constructor
  ·
   intro h2
   refine ⟨fun a ha => ?_, fun i hi => (h2 i hi).2⟩
   obtain ⟨i, hi, rfl⟩ := List.mem_iff_getElem.mp ha
   have := (h2 i ⟨by omega, by omega⟩).1
   simpa [List.getD_eq_getElem?_getD, hi] using this
  ·
   rintro ⟨h1, h2⟩ i hi
   refine ⟨h1 _ ?_, h2 i hi⟩
   have hi' : i < x.length := by omega
   rw [List.getD_eq_getElem?_getD, List.getElem?_eq_getElem hi']; exact List.getElem_mem hi'
 rw [← e]; exact h
theorem Qet (l x:List Int) (b:Int):Ev (fun k=>Qcv.f k l x b) (Qe0 l x b):=by
 refine Ev.bind (Qea l b) ?_
 unfold Qe0
 refine Qcg (fun e => ?_) (fun e => ?_)
 ·
  rw [e, Bool.true_and]
  simp only [Bool.and_eq_true, Qdc] at e
  obtain ⟨p, rfl, g⟩ := Qd8 e.1
  obtain ⟨c, rfl⟩ : ∃ c : Nat, b = (c : Int) := ⟨b.toNat, by omega⟩
  rw [Qd3, toI_len]
  by_cases hx : x.length = p.length
  ·
   rw [decide_eq_true hx, Bool.true_and]
   exact Ev.bind (Qib g x c (by omega) hx) (Ev.now _)
  ·
   rw [decide_eq_false hx, Bool.false_and]
   exact Ev.bind (Q5 (n_eq _) (Q2 (by rw [toI_len]; omega) (Ev.now false))) (Ev.now _)
 ·
  rw [Bool.eq_false_iff.mpr e, Bool.false_and, Bool.false_and]; exact Ev.now _
theorem Qgs (l x:List Int) (b:Int):Ev (fun k=>Qc3.f k l x b) (Qe0 l x b):=by
 refine Ev.bind (Qd2 l) ?_
 unfold Qe0
 refine Qcg (fun e => ?_) (fun e => ?_)
 ·
  obtain ⟨p, rfl, g⟩ := Qd8 e
  rw [e, Bool.true_and, Qd3, toI_len]
  refine Q5 (Qgc b) (Qcg (fun e => ?_) (fun e => ?_))
  ·
   rw [e, Bool.true_and]
   refine Qcg (fun e => ?_) (fun e => ?_)
   ·
    rw [decide_eq_true (by omega), Bool.true_and]
    exact Ev.bind (Qol g x b (by omega)) (Ev.now _)
   ·
    rw [decide_eq_false (by omega), Bool.false_and]; exact Ev.now _
  ·
   rw [Bool.eq_false_iff.mpr e, Bool.false_and, Bool.false_and]; exact Ev.now _
 ·
  rw [Bool.eq_false_iff.mpr e]; simpa using Ev.now false
theorem Qhj {α β:Type} {f g:α→β→α} : ∀ (l:List β) (a:α),(∀ a x,x ∈ l→f a x=g a x)→l.foldl f a=l.foldl g a
 | [], _, _ => rfl
 | x :: l, a, h => by
  rw [List.foldl_cons, List.foldl_cons, h a x List.mem_cons_self]
  exact Qhj l _ fun a y hy => h a y (List.mem_cons_of_mem _ hy)
theorem Qfs {i n:Nat} (h:i<n):2 ^ i<2 ^ n:=Nat.pow_lt_pow_right (by decide) h
theorem Arr.get {p y:List Nat} {b:Nat} (h:Arr p y b) (i:Nat):y.getD i 0≤b:=h.hi i
def upN (y:List Nat) (n:Nat):Nat:=(List.range' 0 y.length).foldl (fun o i=>if y.getD i 0≤n then o|||2 ^ i else o) 0
theorem Qjc (y:List Nat) (n m:Nat): ∀ (d i a:Nat),i+d≤m→a<2 ^ m→(List.range' i d).foldl (fun o i=>if y.getD i 0≤n then o|||2 ^ i else o) a<2 ^ m
 | 0, i, a, h, ha => ha
 | d + 1, i, a, h, ha => by
  rw [List.range'_succ, List.foldl_cons]
  apply Qjc y n m d (i + 1) _ (by omega)
  split
  ·
   exact Nat.or_lt_two_pow ha (Qfs (by omega))
  ·
   exact ha
theorem upN_lt (y:List Nat) (n:Nat):upN y n<2 ^ y.length:=Qjc y n y.length y.length 0 0 (by omega) (Nat.two_pow_pos _)
theorem Qin (y:List Nat) (hy:y.length≤10) (n:Nat): ∀ (d i a:Nat),i+d=y.length→a<2 ^ y.length→
  Ev (fun k => Qb6.l0 k (n : Int) (a : Int) (toI y) ((toI y).length : Int) (i : Int)) (((List.range' i d).foldl (fun o i => if y.getD i 0 ≤ n then o ||| 2 ^ i else o) a : Nat) : Int)
 | 0, i, a, h, ha => Ev.step (fun _ => Qb6.l0.eq_2 ..) (Q2 (by rw [toI_len]; omega) (Ev.now _))
 | d + 1, i, a, h, ha => by
  refine Ev.step (fun _ => Qb6.l0.eq_2 ..) (Qk (by rw [toI_len]; omega) (Qk (by omega) (Qk (by rw [toI_len]; omega) ?_)))
  rw [Qek, Qgu (by omega), Qhn (lt63 ha (by omega)) (lt63 (Qfs (show i < 11 by omega)) (by omega)), Qbv (by omega), List.range'_succ, List.foldl_cons]
  refine Qcg (fun e => ?_) (fun e => ?_)
  ·
   rw [if_pos (by omega)]; exact Qin y hy n d (i + 1) _ (by omega) (Nat.or_lt_two_pow ha (Qfs (by omega)))
  ·
   rw [if_neg (by omega)]; exact Qin y hy n d (i + 1) a (by omega) ha
theorem Qim (y:List Nat) (hy:y.length≤10) (n:Nat):Ev (fun k=>Qb6.f k (toI y) (n:Int)) ((upN y n:Nat):Int):=Qin y hy n y.length 0 0 (by omega) (Nat.two_pow_pos _)
theorem Qjg (y:List Nat) (hy:y.length≤10) (n hi:Nat) (acc:List Int) (ha:acc.length≤1000) (R:List Int) (hn:n≤1000)
  (hR : ∀ a : Nat, a = upN y n → Ev (fun k => Q7.l0 k (toI y) (hi : Int) (acc ++ [(a : Int)]) ((n + 1 + 1 : Nat) : Int)) R) : ∀ (d i a : Nat), i + d = y.length → a < 2 ^ y.length → (List.range' i d).foldl (fun o i => if y.getD i 0 ≤ n then o ||| 2 ^ i else o) a = upN y n →
  Ev (fun k => Q7.l1 k (toI y) (hi : Int) acc ((n + 1 : Nat) : Int) (a : Int) (toI y) ((toI y).length : Int) (i : Int)) R
 | 0, i, a, h, ha', he => by
  refine Ev.step (fun _ => Q7.l1.eq_2 ..) (Q2 (by rw [toI_len]; omega) (Qk (by omega) ?_))
  rw [Qbv (by omega)]
  exact hR a he
 | d + 1, i, a, h, ha', he => by
  rw [List.range'_succ, List.foldl_cons] at he
  refine Ev.step (fun _ => Q7.l1.eq_2 ..) (Qk (by rw [toI_len]; omega) (Qk (by omega) (Qk (by rw [toI_len]; omega) ?_)))
  rw [Qek, Qgu (by omega), Qhn (lt63 ha' (by omega)) (lt63 (Qfs (show i < 11 by omega)) (by omega)), Qbv (by omega)]
  refine Qcg (fun e => ?_) (fun e => ?_)
  ·
   rw [if_pos (by omega)] at he; exact Qjg y hy n hi acc ha R hn hR d (i + 1) _ (by omega) (Nat.or_lt_two_pow ha' (Qfs (by omega))) he
  ·
   rw [if_neg (by omega)] at he; exact Qjg y hy n hi acc ha R hn hR d (i + 1) a (by omega) ha' he
theorem Qma (y:List Nat) (hy:y.length≤10) (hi:Nat) (hh:hi≤900): ∀ (d n:Nat) (acc:List Nat),n+d=hi→acc.length≤n→
  Ev (fun k => Q7.l0 k (toI y) (hi : Int) (toI acc) ((n + 1 : Nat) : Int)) (toI (acc ++ (List.range' n d).map (upN y)))
 | 0, n, acc, h, ha => by
  refine Ev.step (fun _ => Q7.l0.eq_2 ..) (Q2 (by omega) ?_)
  simpa using Ev.now _
 | d + 1, n, acc, h, ha => by
  refine Ev.step (fun _ => Q7.l0.eq_2 ..) (Qk (by omega) ?_)
  refine Qjg y hy n hi _ (by rw [toI_len]; omega) _ (by omega) (fun a hae => ?_) y.length 0 0 (by omega) (Nat.two_pow_pos _) rfl
  rw [← Qe8, ← Qe7, List.range'_succ, List.map_cons, hae]
  have := Qma y hy hi hh d (n + 1) (acc ++ [upN y n]) (by omega) (by simp; omega)
  simpa using this
theorem Qhy (l:List Int) (y:List Nat) (hy:y.length≤10) (hi:Nat) (hh:hi≤900):Ev (fun k=>Q7.f k l (toI y) 1 (hi:Int)) (toI ((List.range' 0 hi).map (upN y))):=by
 have := Qma y hy hi hh hi 0 [] (by omega) (by simp)
 rw [List.nil_append] at this; exact this
theorem Qln (y:List Nat) (hy:y.length≤10) (hi:Nat) (hh:hi≤900): ∀ (d n:Nat) (acc:List Nat),n+d=hi→acc.length≤n→
  Ev (fun k => Qcb.l0 k (toI y) (hi : Int) (toI acc) (n : Int)) (toI (acc ++ (List.range' n d).map (upN y)), true)
 | 0, n, acc, h, ha => by
  refine Ev.step (fun _ => Qcb.l0.eq_2 ..) (Q2 (by omega) ?_)
  simpa using Ev.now _
 | d + 1, n, acc, h, ha => by
  refine Ev.step (fun _ => Qcb.l0.eq_2 ..) (Qk (by omega) (Ev.bind (Qim y hy n) (Qk (by rw [toI_len]; omega) ?_)))
  rw [← Qe8, ← Qe7, List.range'_succ, List.map_cons, Qbv (by omega)]
  have := Qln y hy hi hh d (n + 1) (acc ++ [upN y n]) (by omega) (by simp; omega)
  simpa using this
theorem Qhm (l x:List Int) (b:Int) (_:l.length≤1048576) (_:x.length≤1048576): ∃ r:List Int × Bool,r.1.length≤1000∧Ev (fun k=>Qcb.f k l x b) r∧Ev (fun k=>Qc4.f k l x b) r:=by
 by_cases h : Qe0 l x b = true
 ·
  obtain ⟨p, y, c, rfl, rfl, rfl, g, hc, ha⟩ := Qha h
  have hy : y.length ≤ 10 := by rw [ha.len]; exact g.le
  refine ⟨(toI ((List.range' 0 c).map (upN y)), true), by simp; omega, ?_, ?_⟩
  ·
   have := Qln y hy c (by omega) c 0 [] (by omega) (by simp)
   exact Ev.bind (Qgs _ _ _) (Qk h (by simpa using this))
  ·
   exact Ev.bind (Qet _ _ _) (Qk h (Ev.bind (Qhy _ y hy c (by omega)) (Ev.now _)))
 ·
  exact ⟨([], false), by simp, Ev.bind (Qgs _ _ _) (Q2 h (Ev.now _)), Ev.bind (Qet _ _ _) (Q2 h (Ev.now _))⟩
theorem Qgn (l x:List Int) (b:Int) (_:l.length≤1048576) (_:x.length≤1048576): ∃ r:Int × Bool,Ev (fun k=>Qc6.f k l x b) r∧Ev (fun k=>Qcu.f k l x b) r:=by
 by_cases h : Qe0 l x b = true
 ·
  obtain ⟨p, y, c, rfl, rfl, rfl, g, hc, ha⟩ := Qha h
  have hy : y.length ≤ 10 := by rw [ha.len]; exact g.le
  refine ⟨(((upN y 0 : Nat) : Int), true), ?_, ?_⟩
  ·
   exact Ev.bind (Qgs _ _ _) (Qk h (Ev.bind (Qim y hy 0) (Ev.now _)))
  ·
   refine Ev.bind (Qet _ _ _) (Qk h (Ev.bind (Qhy _ y hy 1 (by omega)) (Qk (by simp) ?_)))
   exact Ev.now _
 ·
  exact ⟨(0, false), Ev.bind (Qgs _ _ _) (Q2 h (Ev.now _)), Ev.bind (Qet _ _ _) (Q2 h (Ev.now _))⟩
def Qd6 (n s b:Nat):List Nat:=(List.range' 0 n).map fun e=>if s.testBit e=true then 0 else b
theorem Qh7 (s b n:Nat) (hn:n≤10): ∀ (d i:Nat) (acc:List Nat),i+d=n→acc.length≤i→
  Ev (fun k => Qba.l0 k (s : Int) (b : Int) (toI acc) (n : Int) (i : Int)) (toI (acc ++ (List.range' i d).map fun e => if s.testBit e = true then 0 else b), true)
 | 0, i, acc, h, ha => by
  refine Ev.step (fun _ => Qba.l0.eq_2 ..) (Q2 (by omega) ?_)
  simpa using Ev.now _
 | d + 1, i, acc, h, ha => by
  refine Ev.step (fun _ => Qba.l0.eq_2 ..) (Qk (by omega) (Q5 (Qgh (by omega)) ?_))
  rw [Qbv (by omega), List.range'_succ, List.map_cons]
  refine Qcg (fun e => Qk (by rw [toI_len]; omega) ?_) (fun e => Qk (by rw [toI_len]; omega) ?_)
  ·
   rw [if_pos e, show (0 : Int) = ((0 : Nat) : Int) from rfl, ← Qe8, ← Qe7]
   have := Qh7 s b n hn d (i + 1) (acc ++ [0]) (by omega) (by simp; omega)
   simpa using this
  ·
   rw [if_neg e, ← Qe8, ← Qe7]
   have := Qh7 s b n hn d (i + 1) (acc ++ [b]) (by omega) (by simp; omega)
   simpa using this
theorem Qgo (s b n:Nat) (hs:s<2 ^ 63) (hn:n≤10): ∀ (d i:Nat) (acc:List Nat),i+d=n→acc.length≤i→
  Ev (fun k => Qv.l0 k (s : Int) (b : Int) (toI acc) (n : Int) (i : Int)) (toI (acc ++ (List.range' i d).map fun e => if s.testBit e = true then 0 else b), true)
 | 0, i, acc, h, ha => by
  refine Ev.step (fun _ => Qv.l0.eq_2 ..) (Q2 (by omega) ?_)
  simpa using Ev.now _
 | d + 1, i, acc, h, ha => by
  refine Ev.step (fun _ => Qv.l0.eq_2 ..) (Qk (by omega) (Q5 (Qmq hs (by omega)) ?_))
  rw [Qbv (by omega), List.range'_succ, List.map_cons]
  refine Qcg (fun e => Qk (by rw [toI_len]; omega) ?_) (fun e => Qk (by rw [toI_len]; omega) ?_)
  ·
   rw [if_pos e, show (0 : Int) = ((0 : Nat) : Int) from rfl, ← Qe8, ← Qe7]
   have := Qgo s b n hs hn d (i + 1) (acc ++ [0]) (by omega) (by simp; omega)
   simpa using this
  ·
   rw [if_neg e, ← Qe8, ← Qe7]
   have := Qgo s b n hs hn d (i + 1) (acc ++ [b]) (by omega) (by simp; omega)
   simpa using this
theorem Qgm (l:List Int) (s b:Int) (_:l.length≤1048576): ∃ r:List Int × Bool,r.1.length≤1000∧Ev (fun k=>Qba.f k l s b) r∧Ev (fun k=>Qv.f k l s b) r:=by
 by_cases h : idB l s = true
 ·
  by_cases h2 : inB b 0 20 = true
  ·
   obtain ⟨p, t, rfl, rfl, g, ht⟩ := Qmt h
   have b2 := Qdc.mp h2
   obtain ⟨c, rfl⟩ : ∃ c : Nat, b = (c : Int) := ⟨b.toNat, by omega⟩
   refine ⟨(toI (Qd6 p.length t c), true), by have := g.le; simp [Qd6]; omega, ?_, ?_⟩
   ·
    have := Qh7 t c p.length g.le p.length 0 [] (by omega) (by simp)
    refine Ev.bind (Qk7 _ _) (Qk h (Q5 (Qgc _) ?_))
    rw [h2]
    refine Ev.step (fun _ => Qba.j0.eq_2 ..) (Q2 (by simp) ?_)
    simpa [Qd6] using this
   ·
    have := Qgo t c p.length (g.len63 ht.1) g.le p.length 0 [] (by omega) (by simp)
    refine Ev.bind (Qea _ _) (Qk (by rw [Qev g, h2]; rfl) (Ev.bind (Qfr _ _) ?_))
    rw [h]
    refine Ev.step (fun _ => Qv.j0.eq_2 ..) (Q2 (by simp) (Q5 (n_eq _) ?_))
    simpa [Qd6] using this
  ·
   refine ⟨([], false), by simp, ?_, ?_⟩
   ·
    refine Ev.bind (Qk7 _ _) (Qk h (Q5 (Qgc _) ?_))
    rw [Bool.eq_false_iff.mpr h2]
    exact Ev.step (fun _ => Qba.j0.eq_2 ..) (Qk rfl (Ev.now _))
   ·
    refine Ev.bind (Qea _ _) (Q2 (by rw [Bool.eq_false_iff.mpr h2]; simp) ?_)
    exact Ev.step (fun _ => Qv.j0.eq_2 ..) (Qk rfl (Ev.now _))
 ·
  refine ⟨([], false), by simp, ?_, ?_⟩
  ·
   refine Ev.bind (Qk7 _ _) (Q2 h ?_)
   exact Ev.step (fun _ => Qba.j0.eq_2 ..) (Qk rfl (Ev.now _))
  ·
   refine Ev.bind (Qea _ _) (Qcg (fun _ => Ev.bind (Qfr _ _) ?_) (fun _ => ?_))
   ·
    rw [Bool.eq_false_iff.mpr h]
    exact Ev.step (fun _ => Qv.j0.eq_2 ..) (Qk rfl (Ev.now _))
   ·
    exact Ev.step (fun _ => Qv.j0.eq_2 ..) (Qk rfl (Ev.now _))
def okJ (p:List Nat) (x:List Int) (j:Nat):Bool:=idB (toI p) (rd x (j:Int)) && (j==0||Go.bits .andNot .i64 (rd x ((j:Int) - 1)) (rd x (j:Int))==0)
def cJ (x:List Int) (j e:Nat):Nat:=((x.take j).filter fun s=> !(s.toNat.testBit e)).length
theorem cJ_zero (x:List Int) (e:Nat):cJ x 0 e=0:=rfl
theorem Qnu {x:List Int} {j e:Nat} (h:j<x.length):cJ x (j+1) e=cJ x j e+if (rd x (j:Int)).toNat.testBit e=true then 0 else 1:=by
 unfold cJ
 rw [List.take_succ_eq_append_getElem h, List.filter_append, List.length_append, Qer h]
 congr 1
 cases hb : x[j].toNat.testBit e
 ·
  rw [List.filter_cons_of_pos (by rw [hb]; rfl)]; rfl
 ·
  rw [List.filter_cons_of_neg (by rw [hb]; simp)]; rfl
theorem cJ_le (x:List Int) (j e:Nat):cJ x j e≤x.length:=by
 unfold cJ
 exact Nat.le_trans (List.length_filter_le _ _) (by rw [List.length_take]; omega)
def cL (n:Nat) (f:Nat→Nat):List Nat:=(List.range n).map f
theorem Qe2 (n:Nat) (f:Nat→Nat):(cL n f).length=n:=by simp [cL]
theorem Qfm {n e:Nat} (f:Nat→Nat) (h:e<n):(cL n f).getD e 0=f e:=by simp [cL,List.getD_eq_getElem?_getD,h]
theorem cL_set {n e:Nat} {f g:Nat→Nat} (v:Nat) (h1:v=g e) (h2: ∀ i,i<n→i≠e→f i=g i):(cL n f).set e v=cL n g:=by
 apply List.ext_getElem (by simp [cL])
 intro i h3 h4
 rw [List.getElem_set]
 simp only [cL, List.getElem_map, List.getElem_range]
 split
 ·
  rename_i c; subst c; exact h1
 ·
  exact h2 i (by simpa [cL] using h4) (by omega)
theorem Qhz {n:Nat} {f g:Nat→Nat} (h: ∀ i,i<n→f i=g i):cL n f=cL n g:=by
 apply List.ext_getElem (by simp [cL])
 intro i h3 h4
 simp only [cL, List.getElem_map, List.getElem_range]
 exact h i (by simpa [cL] using h4)
theorem Ql4 (n U:Nat) (f:Nat→Nat): ∀ m,m≤n→Qc9 m U (fun V e=>V.set e (V.getD e 0+1)) (cL n f)=cL n (fun e=>f e+if e<m∧U.testBit e=true then 1 else 0)
 | 0, _ => by
  show cL n f = _
  exact Qhz fun i _ => by rw [if_neg (by omega), Nat.add_zero]
 | m + 1, h => by
  rw [Qfi, Ql4 n U f m (by omega)]
  split
  ·
   rename_i hb
   rw [Qfm _ (by omega)]
   refine cL_set _ ?_ fun i hi hne => ?_
   ·
    rw [if_neg (by omega), if_pos ⟨by omega, hb⟩]
   ·
    congr 1
    by_cases c : i < m ∧ U.testBit i = true
    ·
     rw [if_pos c, if_pos ⟨by omega, c.2⟩]
    ·
     rw [if_neg c, if_neg (fun h => c ⟨by omega, h.2⟩)]
  ·
   rename_i hb
   refine Qhz fun i hi => ?_
   congr 1
   by_cases c : i < m ∧ U.testBit i = true
   ·
    rw [if_pos c, if_pos ⟨by omega, c.2⟩]
   ·
    refine (if_neg c).trans (if_neg (fun h => c ⟨?_, h.2⟩)).symm
    have : i ≠ m := fun e => by subst e; exact hb h.2
    omega
theorem Qi9 {p:List Nat} (g:Good p) (x:List Int) (j U:Nat) (hU:U<2 ^ p.length) (hj:j<1000) (r:List Int × Bool): ∀ (d q:Nat) (V:List Nat),q+d=(Qcp U).length→V.length=p.length→(∀ e,V.getD e 0+d≤1000)→
  Ev (fun k => Qz.l0 k x (toI (((Qcp U).drop q).foldl (fun V e => V.set e (V.getD e 0 + 1)) V)) x (x.length : Int) ((j + 1 : Nat) : Int) (toI p)) r →
  Ev (fun k => Qz.l1 k x (toI V) x (x.length : Int) (j : Int) (toI (Qcp U)) ((toI (Qcp U)).length : Int) (q : Int) (toI p)) r
 | 0, q, V, h, hV, hb, c => by
  refine Ev.step (fun _ => Qz.l1.eq_2 ..) (Q2 (by rw [toI_len]; omega) ?_)
  rw [Qbv (by omega)]
  rw [List.drop_of_length_le (by omega)] at c; exact c
 | d + 1, q, V, h, hV, hb, c => by
  have hq : q < (Qcp U).length := by omega
  have hm := Qgj hq
  have he := Qe1 hU hm.2
  have hl := Qfb U
  have hbe := hb (Qcp U)[q]
  refine Ev.step (fun _ => Qz.l1.eq_2 ..) ?_
  rw [Qg4 hq]
  refine Qk (by rw [toI_len]; omega) (Qk (by omega) (Qk (by rw [toI_len]; omega) (Qk (by omega) (Qk (by rw [toI_len]; omega) ?_))))
  rw [Qek, Qbv (by omega), Qbv (by omega), Int.toNat_natCast, Qi2]
  rw [List.drop_eq_getElem_cons hq, List.foldl_cons] at c
  refine Qi9 g x j U hU hj r d (q + 1) _ (by omega) (by simpa using hV) (fun e => ?_) c
  have h1 := hb e
  by_cases ce : (Qcp U)[q] = e
  ·
   rw [← ce, List.getD_eq_getElem?_getD, List.getElem?_set_self (by omega), Option.getD_some]; omega
  ·
   rw [List.getD_eq_getElem?_getD, List.getElem?_set_ne ce, ← List.getD_eq_getElem?_getD]; omega
def resJ (p:List Nat) (x:List Int) (ok:Bool):List Int × Bool:=if ok=true then (toI (cL p.length (cJ x x.length)),true) else ([],false)
theorem Qik {p:List Nat} {x:List Int} {j:Nat} (h:okJ p x j=true): ∃ t:Nat,rd x (j:Int)=(t:Int)∧IsId p t:=by
 unfold okJ at h
 rw [Bool.and_eq_true] at h
 obtain ⟨p', t, e, e2, _, ht⟩ := Qmt h.1
 obtain rfl := toI_inj e
 exact ⟨t, e2, ht⟩
theorem Qkn {p:List Nat} (g:Good p) (x:List Int) (hx:x.length≤20): ∀ (d j:Nat),j+d=x.length→
  Ev (fun k => Qz.l0 k x (toI (cL p.length (cJ x j))) x (x.length : Int) (j : Int) (toI p)) (resJ p x ((List.range' j d).all (okJ p x)))
 | 0, j, h => by
  refine Ev.step (fun _ => Qz.l0.eq_2 ..) (Q2 (by omega) ?_)
  obtain rfl : j = x.length := by omega
  exact Ev.now _
 | d + 1, j, h => by
  have ih := Qkn g x hx d (j + 1) (by omega)
  refine Ev.step (fun _ => Qz.l0.eq_2 ..) (Qk (by omega) (Qk (by omega) (Qk (by omega) ?_)))
  refine Ev.bind (Qfr _ _) ?_
  rw [List.range'_succ, List.all_cons]
  have bad : okJ p x j = false → ∀ R : List Int × Bool, R = resJ p x (okJ p x j && (List.range' (j + 1) d).all (okJ p x)) → Ev (fun k => Qz.j2 k x (toI (cL p.length (cJ x j))) (rd x (j : Int)) x (x.length : Int) (j : Int) true (toI p)) R := by
   intro hk R hR
   subst hR
   rw [hk, Bool.false_and]
   exact Ev.step (fun _ => Qz.j2.eq_2 ..) (Qk rfl (Ev.now _))
  have good : okJ p x j = true → ∀ R : List Int × Bool, R = resJ p x (okJ p x j && (List.range' (j + 1) d).all (okJ p x)) → Ev (fun k => Qz.j2 k x (toI (cL p.length (cJ x j))) (rd x (j : Int)) x (x.length : Int) (j : Int) false (toI p)) R := by
   intro hk R hR
   subst hR
   obtain ⟨t, et, ht⟩ := Qik hk
   rw [hk, Bool.true_and]
   refine Ev.step (fun _ => Qz.j2.eq_2 ..) (Q2 (by simp) (Q5 (Qj6 g.le) ?_))
   rw [et, Qd4 (g.len63 (Qgq p)) (g.len63 ht.1)]
   refine Ev.bind (Qfz (g.len63 (Qh5 _ (Qgq p)))) ?_
   refine Qi9 g x j _ (Qh5 _ (Qgq p)) (by omega) _ _ 0 _ (Nat.zero_add _) (Qe2 _ _) (fun e => ?_) ?_
   ·
    have := Qfb (sd (full p) t)
    by_cases he : e < p.length
    ·
     rw [Qfm _ he]; have := cJ_le x j e; omega
    ·
     rw [List.getD_eq_getElem?_getD, List.getElem?_eq_none (by rw [Qe2]; omega)]; simp; omega
   ·
    rw [List.drop_zero, Qfj _ _ (Qh5 _ (Qgq p)) g.le, Ql4 _ _ _ _ (Nat.le_refl _)]
    have e : cL p.length (fun e => cJ x j e + if e < p.length ∧ (sd (full p) t).testBit e = true then 1 else 0) = cL p.length (cJ x (j + 1)) := by
     refine Qhz fun i hi => ?_
     rw [Qnu (by omega), et, Int.toNat_natCast, Qhu, Qgz]
     congr 1
     cases t.testBit i <;> simp [hi]
    rw [e]; exact ih
  by_cases hid : idB (toI p) (rd x (j : Int)) = true
  ·
   rw [hid]
   refine Qk rfl (Qcg (fun hj0 => ?_) (fun hj0 => ?_))
   ·
    refine Qk (by rw [Qc1 (by omega) (by omega)]; omega) (Qk (by rw [Qc1 (by omega) (by omega)]; omega) ?_)
    rw [Qc1 (by omega) (by omega)]
    have hk : okJ p x j = (Go.bits .andNot .i64 (rd x ((j : Int) - 1)) (rd x (j : Int)) == 0) := by
     unfold okJ
     rw [hid, Bool.true_and, show (j == 0) = false by rw [beq_eq_false_iff_ne]; omega, Bool.false_or]
    by_cases hz : Go.bits .andNot .i64 (rd x ((j : Int) - 1)) (rd x (j : Int)) = 0
    ·
     have e : (Go.bits .andNot .i64 (rd x ((j : Int) - 1)) (rd x (j : Int)) != 0) = false := by rw [hz]; rfl
     rw [e]
     exact good (by rw [hk, hz]; rfl) _ rfl
    ·
     have e : (Go.bits .andNot .i64 (rd x ((j : Int) - 1)) (rd x (j : Int)) != 0) = true := by rw [bne_iff_ne]; exact hz
     rw [e]
     exact bad (by rw [hk, beq_eq_false_iff_ne]; exact hz) _ rfl
   ·
    obtain rfl : j = 0 := by omega
    exact good (by unfold okJ; rw [hid]; rfl) _ rfl
  ·
   have hk : okJ p x j = false := by unfold okJ; rw [Bool.eq_false_iff.mpr hid, Bool.false_and]
   exact Q2 hid (bad hk _ rfl)
theorem Qh1 (l x:List Int):Ev (fun k=>Qz.f k l x 20) (if Qej l=true∧x.length≤20 then resJ (l.map Int.toNat) x ((List.range' 0 x.length).all (okJ (l.map Int.toNat) x)) else ([],false)):=by
 refine Ev.bind (Qen l) (Qcg (fun e => ?_) (fun e => ?_))
 ·
  obtain ⟨p, rfl, g⟩ := Qd8 e
  rw [Qd3]
  by_cases hx : x.length ≤ 20
  ·
   rw [if_pos ⟨e, hx⟩, show decide ((x.length : Int) > 20) = false by rw [decide_eq_false_iff_not]; omega]
   have gl := g.le
   refine Ev.step (fun _ => Qz.j0.eq_2 ..) (Q2 (by simp) (Q5 (n_eq _) (Qk (by omega) (Qk (by rw [toI_len]; omega) ?_))))
   have := Qkn g x hx x.length 0 (by omega)
   have e2 : List.replicate ((toI p).length : Int).toNat (0 : Int) = toI (cL p.length (cJ x 0)) := by
    rw [toI_len, Int.toNat_natCast, show (0 : Int) = ((0 : Nat) : Int) from rfl, Qk9]
    congr 1
    exact (List.eq_replicate_iff.mpr ⟨Qe2 _ _, fun b hb => by unfold cL at hb; simp only [List.mem_map] at hb; obtain ⟨_, _, rfl⟩ := hb; rfl⟩).symm
   rw [e2]; exact this
  ·
   rw [if_neg (fun h => hx h.2), show decide ((x.length : Int) > 20) = true by rw [decide_eq_true_eq]; omega]
   exact Ev.step (fun _ => Qz.j0.eq_2 ..) (Qk rfl (Ev.now _))
 ·
  rw [if_neg (fun h => e h.1)]
  exact Ev.step (fun _ => Qz.j0.eq_2 ..) (Qk rfl (Ev.now _))
def wJ (n:Nat) (x:List Int) (e j:Nat):List Nat:=cL n fun i=>if i<e then cJ x x.length i else if i=e then cJ x j i else 0
theorem Qmo {p:List Nat} (g:Good p) (x:List Int) (hx:x.length≤20) (hid: ∀ j,j<x.length→ ∃ t:Nat,rd x (j:Int)=(t:Int)) (e:Nat) (he:e<p.length) (r:List Int × Bool): ∀ (d j:Nat),j+d=x.length→
  Ev (fun k => Qo.l1 k x (toI (wJ p.length x e x.length)) (p.length : Int) ((e + 1 : Nat) : Int)) r →
  Ev (fun k => Qo.l2 k x (toI (wJ p.length x e j)) (e : Int) (p.length : Int) (e : Int) x (x.length : Int) (j : Int)) r
 | 0, j, h, c => by
  have gl := g.le
  refine Ev.step (fun _ => Qo.l2.eq_2 ..) (Q2 (by omega) ?_)
  rw [Qbv (by omega)]
  obtain rfl : j = x.length := by omega
  exact c
 | d + 1, j, h, c => by
  have gl := g.le
  obtain ⟨t, et⟩ := hid j (by omega)
  have ih := Qmo g x hx hid e he r d (j + 1) (by omega) c
  have hs := Qnu (x := x) (j := j) (e := e) (by omega)
  rw [et, Int.toNat_natCast] at hs
  have hle := cJ_le x j e
  refine Ev.step (fun _ => Qo.l2.eq_2 ..) (Qk (by omega) (Qk (by omega) (Qk (by omega) ?_)))
  rw [et, Qbv (i := j) (by omega)]
  refine Q5 (Qgh (by omega)) (Qcg (fun hb => ?_) (fun hb => ?_))
  ·
   rw [if_pos hb] at hs
   have e2 : wJ p.length x e (j + 1) = wJ p.length x e j := Qhz fun i hi => by
    by_cases c1 : i < e
    ·
     rw [if_pos c1, if_pos c1]
    ·
     by_cases c2 : i = e
     ·
      subst c2; rw [if_neg c1, if_neg c1, if_pos rfl, if_pos rfl, hs]; rfl
     ·
      rw [if_neg c1, if_neg c1, if_neg c2, if_neg c2]
   rw [e2] at ih; exact ih
  ·
   rw [if_neg hb] at hs
   refine Qk (by omega) (Qk (by rw [toI_len]; unfold wJ; rw [Qe2]; omega) ?_)
   have eg : (wJ p.length x e j).getD e 0 = cJ x j e := by unfold wJ; rw [Qfm _ he, if_neg (by omega), if_pos rfl]
   rw [Qek, eg, Qbv (by omega), Int.toNat_natCast, Qi2]
   have e2 : (wJ p.length x e j).set e (cJ x j e + 1) = wJ p.length x e (j + 1) := cL_set _ (by rw [if_neg (by omega), if_pos rfl, hs]) fun i hi hne => by rw [if_neg hne, if_neg hne]
   rw [e2]; exact ih
theorem Qmn {p:List Nat} (g:Good p) (x:List Int) (hx:x.length≤20) (hid: ∀ j,j<x.length→ ∃ t:Nat,rd x (j:Int)=(t:Int)): ∀ (d e:Nat),e+d=p.length→
  Ev (fun k => Qo.l1 k x (toI (wJ p.length x e 0)) (p.length : Int) (e : Int)) (toI (cL p.length (cJ x x.length)), true)
 | 0, e, h => by
  refine Ev.step (fun _ => Qo.l1.eq_2 ..) (Q2 (by omega) ?_)
  have e2 : wJ p.length x e 0 = cL p.length (cJ x x.length) := Qhz fun i hi => by rw [if_pos (by omega)]
  rw [e2]; exact Ev.now _
 | d + 1, e, h => by
  refine Ev.step (fun _ => Qo.l1.eq_2 ..) (Qk (by omega) ?_)
  refine Qmo g x hx hid e (by omega) _ x.length 0 (by omega) ?_
  have e2 : wJ p.length x e x.length = wJ p.length x (e + 1) 0 := Qhz fun i hi => by
   by_cases c1 : i < e
   ·
    rw [if_pos c1, if_pos (by omega)]
   ·
    by_cases c2 : i = e
    ·
     rw [if_neg c1, if_pos c2, if_pos (by omega)]
    ·
     rw [if_neg c1, if_neg c2, if_neg (by omega)]
     by_cases c3 : i = e + 1
     ·
      rw [if_pos c3, cJ_zero]
     ·
      rw [if_neg c3]
  rw [e2]
  exact Qmn g x hx hid d (e + 1) (by omega)
theorem Qjm {p:List Nat} (g:Good p) (x:List Int) (hx:x.length≤20): ∀ (d j:Nat),j+d=x.length→(∀ i,i<j→okJ p x i=true)→
  Ev (fun k => Qo.l0 k x x (x.length : Int) (j : Int) (toI p)) (resJ p x ((List.range' j d).all (okJ p x)))
 | 0, j, h, ok => by
  have gl := g.le
  refine Ev.step (fun _ => Qo.l0.eq_2 ..) (Q2 (by omega) (Qk (by omega) (Qk (by rw [toI_len]; omega) (Q5 rfl ?_))))
  have e2 : List.replicate ((toI p).length : Int).toNat (0 : Int) = toI (wJ p.length x 0 0) := by
   rw [toI_len, Int.toNat_natCast, show (0 : Int) = ((0 : Nat) : Int) from rfl, Qk9]
   congr 1
   refine (List.eq_replicate_iff.mpr ⟨Qe2 _ _, fun b hb => ?_⟩).symm
   unfold wJ cL at hb; simp only [List.mem_map] at hb
   obtain ⟨i, _, rfl⟩ := hb
   rw [if_neg (by omega)]
   split <;> rfl
  rw [e2, toI_len]
  have el : (wJ p.length x 0 0).length = p.length := Qe2 _ _
  rw [el]
  exact Qmn g x hx (fun j hj => by obtain ⟨t, e, _⟩ := Qik (ok j (by omega)); exact ⟨t, e⟩) p.length 0 (by omega)
 | d + 1, j, h, ok => by
  have gl := g.le
  have hp := Nat.two_pow_pos p.length
  refine Ev.step (fun _ => Qo.l0.eq_2 ..) (Qk (by omega) (Qk (by omega) (Qk (by omega) (Q5 (Qh3 p _ gl) ?_))))
  rw [List.range'_succ, List.all_cons]
  have idb : idB (toI p) (rd x (j : Int)) = (inB (rd x (j : Int)) 0 ((2 ^ p.length - 1 : Nat) : Int) && Qep p (rd x (j : Int)).toNat) := by
   unfold idB setB; rw [Qev g, Bool.true_and, toI_len, Qd3]
  have bad : okJ p x j = false → resJ p x (okJ p x j && (List.range' (j + 1) d).all (okJ p x)) = ([], false) := by intro hk; rw [hk, Bool.false_and]; rfl
  refine Qcg (fun e => ?_) (fun e => ?_)
  ·
   have b := Qdc.mp e
   rw [e, Bool.true_and] at idb
   obtain ⟨t, et⟩ : ∃ t : Nat, rd x (j : Int) = (t : Int) := ⟨(rd x (j : Int)).toNat, by omega⟩
   have hpi := Qh2 g (s := t) (by omega)
   rw [← et] at hpi
   rw [et, Int.toNat_natCast] at idb
   refine Ev.bind hpi (Qcg (fun e3 => ?_) (fun e3 => ?_))
   ·
    rw [e3, ← et] at idb
    refine Qcg (fun hj0 => ?_) (fun hj0 => ?_)
    ·
     refine Qk (by rw [Qc1 (by omega) (by omega)]; omega) (Qk (by rw [Qc1 (by omega) (by omega)]; omega) ?_)
     rw [Qc1 (x := (j : Int) - 1) (by omega) (by omega)]
     have hk : okJ p x j = (Go.bits .andNot .i64 (rd x ((j : Int) - 1)) (rd x (j : Int)) == 0) := by
      unfold okJ
      rw [idb, Bool.true_and, show (j == 0) = false by rw [beq_eq_false_iff_ne]; omega, Bool.false_or]
     refine Qcg (fun hz => ?_) (fun hz => ?_)
     ·
      have hk2 : okJ p x j = true := by rw [hk, hz]; rfl
      rw [hk2, Bool.true_and, Qbv (by omega)]
      exact Qjm g x hx d (j + 1) (by omega) fun i hi => by
       by_cases c : i = j
       ·
        subst c; exact hk2
       ·
        exact ok i (by omega)
     ·
      rw [bad (by rw [hk, beq_eq_false_iff_ne]; exact hz)]; exact Ev.now _
    ·
     obtain rfl : j = 0 := by omega
     have hk2 : okJ p x 0 = true := by unfold okJ; rw [idb]; rfl
     rw [hk2, Bool.true_and, Qbv (by omega)]
     exact Qjm g x hx d (0 + 1) (by omega) fun i hi => by
      obtain rfl : i = 0 := by omega
      exact hk2
   ·
    have hk : okJ p x j = false := by unfold okJ; rw [et, idb, Bool.eq_false_iff.mpr e3, Bool.false_and]
    rw [bad hk]; exact Ev.now _
  ·
   have hk : okJ p x j = false := by unfold okJ; rw [idb, Bool.eq_false_iff.mpr e, Bool.false_and, Bool.false_and]
   rw [bad hk]; exact Ev.now _
theorem Qg8 (l x:List Int) (hl:l.length≤1048576) (hx:x.length≤1048576): ∃ r:List Int × Bool,r.1.length≤1000∧Ev (fun k=>Qo.f k l x) r∧Ev (fun k=>Qcy.f k l x) r:=by
 refine ⟨_, ?_, ?_, Ev.bind (Qh1 l x) (Ev.now _)⟩
 ·
  split
  ·
   rename_i h
   obtain ⟨p, rfl, g⟩ := Qd8 h.1
   rw [Qd3]
   unfold resJ; split
   ·
    rw [toI_len, Qe2]; have := g.le; omega
   ·
    exact Nat.zero_le _
  ·
   exact Nat.zero_le _
 ·
  refine Ev.bind (Qd2 l) (Qcg (fun e => ?_) (fun e => ?_))
  ·
   obtain ⟨p, rfl, g⟩ := Qd8 e
   rw [Qd3]
   by_cases hx : x.length ≤ 20
   ·
    rw [if_pos ⟨e, hx⟩, show decide ((x.length : Int) > 20) = false by rw [decide_eq_false_iff_not]; omega]
    exact Ev.step (fun _ => Qo.j0.eq_2 ..) (Q2 (by simp) (Qjm g x hx x.length 0 (by omega) fun i hi => by omega))
   ·
    rw [if_neg (fun h => hx h.2), show decide ((x.length : Int) > 20) = true by rw [decide_eq_true_eq]; omega]
    exact Ev.step (fun _ => Qo.j0.eq_2 ..) (Qk rfl (Ev.now _))
  ·
   rw [if_neg (fun h => e h.1)]
   exact Ev.step (fun _ => Qo.j0.eq_2 ..) (Qk rfl (Ev.now _))
def lowN (p y:List Nat) (e:Nat):Nat:=Qc9 p.length (less p e) (fun o j=>max o (y.getD j 0)) 0
def Qfq (p y:List Nat) (b e:Nat):Nat:=(List.range' 0 p.length).foldl (fun o i=>if (less p i).testBit e=true then min o (y.getD i 0) else o) b
theorem Qm4 (a b:Nat):mx (a:Int) (b:Int)=((max a b:Nat):Int):=by unfold mx;split<;>omega
theorem mn_nat (a b:Nat):mn (a:Int) (b:Int)=((min a b:Nat):Int):=by unfold mn;split<;>omega
theorem Qoi (a b:Nat):Qc8.f (a:Int) (b:Int)=some ((max a b:Nat):Int):=by unfold Qc8.f;split<;>(congr 1;omega)
theorem Qju {p y:List Nat} (g:Good p) (hy:y.length=p.length) (e lo:Nat) (he:e<p.length): ∀ (d i hi:Nat),i+d=p.length→
  Ev (fun k => Qbc.l1 k (toI y) (e : Int) (lo : Int) (hi : Int) (p.length : Int) (i : Int) (toI p)) ((lo : Int), (((List.range' i d).foldl (fun o i => if (less p i).testBit e = true then min o (y.getD i 0) else o) hi : Nat) : Int))
 | 0, i, hi, h => Ev.step (fun _ => Qbc.l1.eq_2 ..) (Q2 (by omega) (Ev.now _))
 | d + 1, i, hi, h => by
  have gl := g.le
  refine Ev.step (fun _ => Qbc.l1.eq_2 ..) (Qk (by omega) (Qk (by omega) (Qk (by rw [toI_len]; omega) ?_)))
  rw [Qez]
  refine Q5 (Qmq (g.lt63 _) (by omega)) ?_
  rw [List.range'_succ, List.foldl_cons, Qbv (by omega)]
  refine Qcg (fun e1 => ?_) (fun e1 => ?_)
  ·
   rw [if_pos e1, Qek, mn_nat]
   exact Qk (by rw [toI_len]; omega) (Qju g hy e lo he d (i + 1) _ (by omega))
  ·
   rw [if_neg e1]; exact Qju g hy e lo he d (i + 1) hi (by omega)
theorem Qnd {p y:List Nat} (g:Good p) (hy:y.length=p.length) (e b:Nat) (he:e<p.length): ∀ (d q lo:Nat),q+d=(Qcp (less p e)).length→
  Ev (fun k => Qbc.l0 k (toI y) (e : Int) (lo : Int) (b : Int) (toI (Qcp (less p e))) ((toI (Qcp (less p e))).length : Int) (q : Int) (toI p)) (((((Qcp (less p e)).drop q).foldl (fun o j => max o (y.getD j 0)) lo : Nat) : Int), ((Qfq p y b e : Nat) : Int))
 | 0, q, lo, h => by
  refine Ev.step (fun _ => Qbc.l0.eq_2 ..) (Q2 (by rw [toI_len]; omega) (Q5 (n_eq _) ?_))
  rw [List.drop_of_length_le (by omega), toI_len]
  exact Qju g hy e lo he p.length 0 b (by omega)
 | d + 1, q, lo, h => by
  have hq : q < (Qcp (less p e)).length := by omega
  have hm := Qgj hq
  have hj := g.bit hm.2
  have gl := g.le
  have hl := Qfb (less p e)
  refine Ev.step (fun _ => Qbc.l0.eq_2 ..) ?_
  rw [Qg4 hq, Qek, Qm4, Qbv (by omega), List.drop_eq_getElem_cons hq, List.foldl_cons]
  exact Qk (by rw [toI_len]; omega) (Qk (by omega) (Qk (by rw [toI_len]; omega) (Qk (by omega) (Qk (by rw [toI_len]; omega) (Qnd g hy e b he d (q + 1) _ (by omega))))))
theorem reach_ev {p y:List Nat} (g:Good p) (hy:y.length=p.length) (b e:Nat) (he:e<p.length):Ev (fun k=>Qbc.f k (toI p) (toI y) (b:Int) (e:Int)) (((lowN p y e:Nat):Int),((Qfq p y b e:Nat):Int)):=by
 have h := Qnd g hy e b he (Qcp (less p e)).length 0 0 (by omega)
 rw [List.drop_zero, Qfj _ _ (g.lt10 e) g.le] at h
 unfold Qbc.f
 refine Qk (by omega) (Qk (by rw [toI_len]; omega) ?_)
 rw [Qez]
 exact Ev.bind (Qfz (g.lt63 e)) h
theorem Qjq (l:List Int) (h:l.length<17592186044416):Qdp.f l=some l:=by
 unfold Qdp.f; rw [Option.bind_some, if_pos (by simpa using h)]; rfl
theorem Clone_eq (l:List Int) (h:l.length<17592186044416):Qc7.f l=some l:=by unfold Qc7.f;rw [if_pos h]
theorem Qi8 (n:Nat) (hn:n≤1000): ∀ (d i:Nat) (acc:List Nat),i+d=n→acc.length=i→Ev (fun k=>Qca.l0 k (toI acc) (n:Int) (i:Int)) (toI (acc++List.range' i d))
 | 0, i, acc, h, ha => by
  refine Ev.step (fun _ => Qca.l0.eq_2 ..) (Q2 (by omega) ?_)
  simpa using Ev.now _
 | d + 1, i, acc, h, ha => by
  refine Ev.step (fun _ => Qca.l0.eq_2 ..) (Qk (by omega) (Qk (by rw [toI_len]; omega) ?_))
  rw [Qbv (by omega), ← Qe8, ← Qe7, List.range'_succ]
  have := Qi8 n hn d (i + 1) (acc ++ [i]) (by omega) (by simp [ha])
  simpa using this
theorem Qnm (n:Nat) (hn:n≤1000):Ev (fun k=>Qca.f k (n:Int)) (toI (List.range n)):=by
 have := Qi8 n hn n 0 [] (by omega) rfl
 rw [List.nil_append, ← List.range_eq_range'] at this; exact this
theorem Qku (l:List Int) (hl:l.length≤1000000): ∀ (d i j:Nat) (x:List Int),i+j+1=l.length→j+1≤i+d→(hx:x.length=l.length)→
  (∀ t (h : t < x.length), x[t] = if t < i ∨ j < t then l[l.length - 1 - t]'(by omega) else l[t]'(by omega)) → Ev (fun k => Qs.l0 k x (i : Int) (j : Int)) l.reverse
 | 0, i, j, x, h, hd, hx, ht => by
  refine Ev.step (fun _ => Qs.l0.eq_2 ..) (Q2 (by omega) ?_)
  have e : x = l.reverse := by
   apply List.ext_getElem (by simpa using hx)
   intro t h1 h2
   rw [ht t h1, List.getElem_reverse]
   split
   ·
    rfl
   ·
    congr 1; omega
  rw [e]; exact Ev.now _
 | d + 1, i, j, x, h, hd, hx, ht => by
  by_cases hij : i < j
  ·
   refine Ev.step (fun _ => Qs.l0.eq_2 ..) (Qk (by omega) (Qk (by omega) (Qk (by omega) (Qk (by omega) (Qk (by omega) ?_)))))
   have hi : i < x.length := by omega
   have hj : j < x.length := by omega
   rw [Qer hi, Qer hj, Qbv (by omega), Qc1 (x := (j : Int) - 1) (by omega) (by omega), show ((j : Int) - 1) = ((j - 1 : Nat) : Int) by omega, Int.toNat_natCast, Int.toNat_natCast]
   refine Qku l hl d (i + 1) (j - 1) _ (by omega) (by omega) (by simpa using hx) (fun t h1 => ?_)
   have h1' : t < x.length := by simpa using h1
   rw [List.getElem_set, List.getElem_set]
   by_cases c1 : j = t
   ·
    subst c1
    rw [if_pos rfl, if_pos (by omega)]
    refine (ht i hi).trans ?_
    rw [if_neg (by omega)]
    congr 1; omega
   ·
    rw [if_neg c1]
    by_cases c2 : i = t
    ·
     subst c2
     rw [if_pos rfl, if_pos (by omega)]
     refine (ht j hj).trans ?_
     rw [if_neg (by omega)]
     congr 1; omega
    ·
     rw [if_neg c2, ht t h1']
     by_cases c3 : t < i ∨ j < t
     ·
      rw [if_pos c3, if_pos (by omega)]
     ·
      rw [if_neg c3, if_neg (by omega)]
  ·
   refine Ev.step (fun _ => Qs.l0.eq_2 ..) (Q2 (by omega) ?_)
   have e : x = l.reverse := by
    apply List.ext_getElem (by simpa using hx)
    intro t h1 h2
    rw [ht t h1, List.getElem_reverse]
    split
    ·
     rfl
    ·
     congr 1; omega
   rw [e]; exact Ev.now _
theorem Qon (l:List Int) (hl:l.length≤1000000):Ev (fun k=>Qs.f k l) l.reverse:=by
 unfold Qs.f
 cases hn : l with
 | nil => exact Ev.step (fun _ => Qs.l0.eq_2 ..) (Q2 (by simp [wrap64]) (Ev.now _))
 | cons x t =>
  rw [← hn]
  have hp : 0 < l.length := by rw [hn]; simp
  rw [Qc1 (by omega) (by omega), show ((l.length : Int) - 1) = ((l.length - 1 : Nat) : Int) by omega]
  refine Qku l hl l.length 0 (l.length - 1) l (by omega) (by omega) rfl (fun t h => ?_)
  rw [if_neg (by omega)]
theorem toI_rev (p:List Nat):(toI p).reverse=toI p.reverse:=by simp [toI]
theorem Qj9 {s m:Nat} (f:Nat→Nat): ∀ (n a:Nat),Qc9 n s (fun o j=>max o (f j)) a≤m ↔ (a≤m∧ ∀ j,j<n→s.testBit j=true→f j≤m)
 | 0, a => by simp [Qc9]
 | n + 1, a => by
  rw [Qfi]
  have ih := Qj9 (s := s) (m := m) f n a
  split
  ·
   rename_i hs
   rw [Nat.max_le, ih]
   constructor
   ·
    rintro ⟨⟨h1, h2⟩, h3⟩
    refine ⟨h1, fun j hj hb => ?_⟩
    by_cases e : j = n
    ·
     subst e; exact h3
    ·
     exact h2 j (by omega) hb
   ·
    rintro ⟨h1, h2⟩
    exact ⟨⟨h1, fun j hj hb => h2 j (by omega) hb⟩, h2 n (by omega) hs⟩
  ·
   rename_i hs
   rw [ih]
   constructor
   ·
    rintro ⟨h1, h2⟩
    refine ⟨h1, fun j hj hb => ?_⟩
    by_cases e : j = n
    ·
     subst e; exact absurd hb hs
    ·
     exact h2 j (by omega) hb
   ·
    rintro ⟨h1, h2⟩
    exact ⟨h1, fun j hj hb => h2 j (by omega) hb⟩
theorem Qka {m:Nat} (c:Nat→Bool) (f:Nat→Nat): ∀ (l:List Nat) (a:Nat),m≤l.foldl (fun o i=>if c i=true then min o (f i) else o) a ↔ (m≤a∧ ∀ i,i ∈ l→c i=true→m≤f i)
 | [], a => by simp
 | x :: l, a => by
  rw [List.foldl_cons, Qka c f l]
  by_cases h : c x = true
  ·
   rw [if_pos h, Nat.le_min]
   simp only [List.mem_cons]
   constructor
   ·
    rintro ⟨⟨h1, h2⟩, h3⟩
    refine ⟨h1, fun i hi hc => ?_⟩
    rcases hi with rfl | hi
    ·
     exact h2
    ·
     exact h3 i hi hc
   ·
    rintro ⟨h1, h2⟩
    exact ⟨⟨h1, h2 x (.inl rfl) h⟩, fun i hi hc => h2 i (.inr hi) hc⟩
  ·
   rw [if_neg h]
   simp only [List.mem_cons]
   constructor
   ·
    rintro ⟨h1, h2⟩
    refine ⟨h1, fun i hi hc => ?_⟩
    rcases hi with rfl | hi
    ·
     exact absurd hc h
    ·
     exact h2 i hi hc
   ·
    rintro ⟨h1, h2⟩
    exact ⟨h1, fun i hi hc => h2 i (.inr hi) hc⟩
theorem Qhp {p y:List Nat} (g:Good p) {e m:Nat} :lowN p y e≤m ↔ ∀ j,(less p e).testBit j=true→y.getD j 0≤m:=by
 unfold lowN; rw [Qj9]
 constructor
 ·
  rintro ⟨_, h⟩ j hb; exact h j (by have := g.bit hb; omega) hb
 ·
  intro h; exact ⟨by omega, fun j _ hb => h j hb⟩
theorem Qg1 {p y:List Nat} (g:Good p) {b e m:Nat} :m≤Qfq p y b e ↔ (m≤b∧ ∀ i,(less p i).testBit e=true→m≤y.getD i 0):=by
 unfold Qfq; rw [Qka (fun i => (less p i).testBit e)]
 constructor
 ·
  rintro ⟨h1, h⟩; exact ⟨h1, fun i hb => h i (by have := g.bit hb; simp; omega) hb⟩
 ·
  rintro ⟨h1, h⟩; exact ⟨h1, fun i _ hb => h i hb⟩
theorem Qkl {p y:List Nat} {b:Nat} (g:Good p) (a:Arr p y b) (e:Nat):lowN p y e≤y.getD e 0:=(Qhp g).mpr fun j hb=>a.up e j hb
theorem Qk1 {p y:List Nat} {b:Nat} (g:Good p) (a:Arr p y b) (e:Nat):y.getD e 0≤Qfq p y b e:=(Qg1 g).mpr ⟨a.hi e,fun i hb=>a.up i e hb⟩
theorem Qij {p y:List Nat} (g:Good p) (b e:Nat):Qfq p y b e≤b:=((Qg1 g).mp (Nat.le_refl _)).1
def tgN (p:List Nat) (b:Nat) (y:List Nat) (e:Nat):List Nat:=y.set e (lowN p y e+Qfq p y b e - y.getD e 0)
theorem getD_set (y:List Nat) (e v i:Nat):(y.set e v).getD i 0=if i=e∧e<y.length then v else y.getD i 0:=by
 simp only [List.getD_eq_getElem?_getD, List.getElem?_set]
 by_cases h : e = i
 ·
  subst h
  by_cases h2 : e < y.length
  ·
   simp [h2]
  ·
   simp [h2]
 ·
  simp [h, Ne.symm h]
theorem Qk8 (p:List Nat) (b:Nat) (y:List Nat) (e:Nat):(tgN p b y e).length=y.length:=by simp [tgN]
theorem Qi1 (p:List Nat) (b:Nat) (y:List Nat) (e i:Nat):(tgN p b y e).getD i 0=if i=e∧e<y.length then lowN p y e+Qfq p y b e - y.getD e 0 else y.getD i 0:=getD_set ..
theorem Arr.tg {p y:List Nat} {b:Nat} (g:Good p) (a:Arr p y b) (e:Nat):Arr p (tgN p b y e) b:=by
 have h1 := Qkl g a e
 have h2 := Qk1 g a e
 have h3 := Qij (y := y) g b e
 refine ⟨by rw [Qk8]; exact a.len, fun i => ?_, fun i j hb => ?_⟩
 ·
  rw [Qi1]; split
  ·
   omega
  ·
   exact a.hi i
 ·
  have hj := g.bit hb
  have hu := a.up i j hb
  rw [Qi1, Qi1]
  by_cases c1 : j = e ∧ e < y.length
  ·
   rw [if_pos c1, if_neg (by omega)]
   have := ((Qg1 (y := y) (b := b) g (e := e)).mp (Nat.le_refl _)).2 i (by rw [← c1.1]; exact hb)
   omega
  ·
   rw [if_neg c1]
   by_cases c2 : i = e ∧ e < y.length
   ·
    rw [if_pos c2]
    have := (Qhp (y := y) g (e := e)).mp (Nat.le_refl _) j (by rw [← c2.1]; exact hb)
    omega
   ·
    rw [if_neg c2]; exact hu
theorem tg_val {p y:List Nat} {b:Nat} (g:Good p) (a:Arr p y b) (hb:b≤20) (e:Nat):wrap64 (wrap64 (((lowN p y e:Nat):Int)+((Qfq p y b e:Nat):Int)) - rd (toI y) (e:Int))=((lowN p y e+Qfq p y b e - y.getD e 0:Nat):Int):=by
 have h1 := Qkl g a e
 have h2 := Qk1 g a e
 have h3 := Qij (y := y) g b e
 have h4 := a.hi e
 rw [Qek, Qc1 (x := ((lowN p y e : Nat) : Int) + ((Qfq p y b e : Nat) : Int)) (by omega) (by omega), Qc1 (by omega) (by omega)]; omega
theorem Arr.small {p y:List Nat} {b:Nat} (g:Good p) (a:Arr p y b):y.length≤10:=by rw [a.len];exact g.le
theorem Qn8 {p:List Nat} {b:Nat} (g:Good p) (hb:b≤20) (w:List Nat) (hw: ∀ e ∈ w,e<p.length) (hl:w.length≤1000000): ∀ (d i:Nat) (y:List Nat),i+d=w.length→Arr p y b→
  Ev (fun k => Qb3.l0 k (toI y) (b : Int) (toI w) ((toI w).length : Int) (i : Int) (toI p)) (toI ((w.drop i).foldl (tgN p b) y))
 | 0, i, y, h, a => by
  refine Ev.step (fun _ => Qb3.l0.eq_2 ..) (Q2 (by rw [toI_len]; omega) ?_)
  rw [List.drop_of_length_le (by omega)]; exact Ev.now _
 | d + 1, i, y, h, a => by
  have hi : i < w.length := by omega
  have he := hw _ (List.getElem_mem hi)
  have e1 : rd (toI w) (i : Int) = ((w[i] : Nat) : Int) := by rw [Qek]; simp [List.getD_eq_getElem?_getD, hi]
  refine Ev.step (fun _ => Qb3.l0.eq_2 ..) ?_
  rw [e1]
  refine Qk (by rw [toI_len]; omega) (Qk (by omega) (Qk (by rw [toI_len]; omega) (Ev.bind (reach_ev g a.len b _ he) (Qk (by omega) (Qk (by rw [toI_len, a.len]; omega) ?_)))))
  simp only
  rw [tg_val g a hb, Int.toNat_natCast, Qi2, Qbv (by omega), List.drop_eq_getElem_cons hi, List.foldl_cons]
  exact Qn8 g hb w hw hl d (i + 1) _ (by omega) (a.tg g _)
theorem turn_ev {p y:List Nat} {b:Nat} (g:Good p) (a:Arr p y b) (hb:b≤20) (w:List Nat) (hw: ∀ e ∈ w,e<p.length) (hl:w.length≤1000000):Ev (fun k=>Qb3.f k (toI p) (toI y) (b:Int) (toI w)) (toI (w.foldl (tgN p b) y)):=by
 have := Qn8 g hb w hw hl w.length 0 y (by omega) a
 rw [List.drop_zero] at this; exact this
theorem Arr.fold {p:List Nat} {b:Nat} (g:Good p): ∀ (w y:List Nat),Arr p y b→Arr p (w.foldl (tgN p b) y) b
 | [], _, a => a
 | e :: w, y, a => Arr.fold g w _ (a.tg g e)
def rowN (p:List Nat) (b:Nat) (y:List Nat):List Nat:=(List.range p.length).reverse.foldl (tgN p b) y
theorem Arr.row {p y:List Nat} {b:Nat} (g:Good p) (a:Arr p y b):Arr p (rowN p b y) b:=Arr.fold g _ _ a
def iter {α:Type} (f:α→α):Nat→α→α
 | 0, x => x
 | n + 1, x => iter f n (f x)
theorem Qkh {p:List Nat} {b:Nat} (g:Good p) (hb:b≤20) (w:List Nat) (hw: ∀ e ∈ w,e<p.length) (hl:w.length≤1000) (m:Nat) (hm:m≤1000): ∀ (d i:Nat) (y:List Nat),i+d=m→Arr p y b→
  Ev (fun k => Qu.l0 k (b : Int) (toI y) (toI w) (m : Int) (i : Int) (toI p)) (toI (iter (fun z => w.foldl (tgN p b) z) d y), true)
 | 0, i, y, h, a => Ev.step (fun _ => Qu.l0.eq_2 ..) (Q2 (by omega) (Ev.now _))
 | d + 1, i, y, h, a => by
  refine Ev.step (fun _ => Qu.l0.eq_2 ..) (Qk (by omega) (Ev.bind (turn_ev g a hb w hw (by omega)) ?_))
  rw [Qbv (by omega)]
  exact Qkh g hb w hw hl m hm d (i + 1) _ (by omega) (Arr.fold g w y a)
def tg (p:List Nat) (s e:Nat):Nat:=if Qep p (s ^^^ 2 ^ e)=true then s ^^^ 2 ^ e else s
theorem Qiy {p:List Nat} {e:Nat} (h:e<p.length):2 ^ e<2 ^ p.length:=Nat.pow_lt_pow_right (by decide) h
theorem tg_id {p:List Nat} {s e:Nat} (hs:IsId p s) (h:e<p.length):IsId p (tg p s e):=by
 unfold tg; split
 ·
  rename_i h2; exact (Qe4 (Nat.xor_lt_two_pow hs.1 (Qiy h))).mp h2
 ·
  exact hs
theorem Qod (s e i:Nat):(s ^^^ 2 ^ e).testBit i=(s.testBit i ^^ decide (e=i)):=by rw [Nat.testBit_xor,Nat.testBit_two_pow]
theorem Qhv {s e i:Nat} (h:e≠i):(s ^^^ 2 ^ e).testBit i=s.testBit i:=by rw [Qod];simp [h]
theorem Qis (s e:Nat):(s ^^^ 2 ^ e).testBit e= !s.testBit e:=by rw [Qod];simp
def Can (p:List Nat) (s e:Nat):Prop:=(s.testBit e=true→ ∀ f,s.testBit f=true→(less p f).testBit e=false)∧(s.testBit e=false→ ∀ f,(less p e).testBit f=true→s.testBit f=true)
theorem can_iff {p:List Nat} (g:Good p) {s e:Nat} (hs:IsId p s) (he:e<p.length):Qep p (s ^^^ 2 ^ e)=true ↔ Can p s e:=by
 rw [Qe4 (Nat.xor_lt_two_pow hs.1 (Qiy he))]
 constructor
 ·
  rintro ⟨_, h⟩
  refine ⟨fun h1 f hf => ?_, fun h1 f hf => ?_⟩
  ·
   apply Bool.eq_false_iff.mpr
   intro hc
   have b := g.bit hc
   have := h f (by rw [Qhv (by omega)]; exact hf) e hc
   rw [Qis, h1] at this; cases this
  ·
   have b := g.bit hf
   have := h e (by rw [Qis, h1]; rfl) f hf
   rwa [Qhv (by omega)] at this
 ·
  rintro ⟨h1, h2⟩
  refine ⟨Nat.xor_lt_two_pow hs.1 (Qiy he), fun f hf i hi => ?_⟩
  have b := g.bit hi
  by_cases c : e = f
  ·
   subst c
   rw [Qis, Bool.not_eq_true'] at hf
   rw [Qhv (by omega)]
   exact h2 hf i hi
  ·
   rw [Qhv c] at hf
   have hsi := hs.2 f hf i hi
   by_cases c2 : e = i
   ·
    subst c2
    rw [h1 hsi f hf] at hi; cases hi
   ·
    rw [Qhv c2]; exact hsi
theorem tg_ne {p:List Nat} {s e i:Nat} (h:e≠i):(tg p s e).testBit i=s.testBit i:=by
 unfold tg; split
 ·
  exact Qhv h
 ·
  rfl
theorem tg_eq {p:List Nat} (g:Good p) {s e:Nat} (hs:IsId p s) (he:e<p.length):(tg p s e).testBit e=true ↔ (s.testBit e=true∧ ∃ f,s.testBit f=true∧(less p f).testBit e=true)∨(s.testBit e=false∧ ∀ f,(less p e).testBit f=true→s.testBit f=true):=by
 have hc := can_iff g hs he
 unfold tg
 cases hb : s.testBit e
 ·
  by_cases c : Qep p (s ^^^ 2 ^ e) = true
  ·
   rw [if_pos c, Qis, hb]
   exact ⟨fun _ => .inr ⟨rfl, (hc.mp c).2 hb⟩, fun _ => rfl⟩
  ·
   rw [if_neg c, hb]
   refine ⟨fun h => (by cases h), fun h => ?_⟩
   rcases h with h | h
   ·
    cases h.1
   ·
    exact absurd (hc.mpr ⟨fun h1 => (by rw [hb] at h1; cases h1), fun _ => h.2⟩) c
 ·
  by_cases c : Qep p (s ^^^ 2 ^ e) = true
  ·
   rw [if_pos c, Qis, hb]
   refine ⟨fun h => (by cases h), fun h => ?_⟩
   rcases h with ⟨_, f, hf, hl⟩ | h
   ·
    rw [(hc.mp c).1 hb f hf] at hl; cases hl
   ·
    cases h.1
  ·
   rw [if_neg c, hb]
   refine ⟨fun _ => .inl ⟨rfl, ?_⟩, fun _ => rfl⟩
   apply Classical.byContradiction
   intro hn
   refine c (hc.mpr ⟨fun _ f hf => ?_, fun h => by rw [hb] at h; cases h⟩)
   apply Bool.eq_false_iff.mpr
   intro hl
   exact hn ⟨f, hf, hl⟩
def bot (p:List Nat) (u:Nat):Nat:=Qc9 p.length u (fun o e=>if less p e &&& u=0 then o|||2 ^ e else o) 0
theorem Ql6 {a b:Nat} :a &&& b=0 ↔ ∀ i,a.testBit i=true→b.testBit i=false:=by
 constructor
 ·
  intro h i hi
  have : (a &&& b).testBit i = false := by rw [h, Nat.zero_testBit]
  rw [Nat.testBit_and, hi, Bool.true_and] at this; exact this
 ·
  intro h
  apply Nat.eq_of_testBit_eq
  intro i
  rw [Nat.testBit_and, Nat.zero_testBit]
  cases ha : a.testBit i
  ·
   rfl
  ·
   rw [h i ha]; rfl
theorem Qi6 (c:Nat→Prop) [DecidablePred c] (u a i:Nat): ∀ n,(Qc9 n u (fun o e=>if c e then o|||2 ^ e else o) a).testBit i=true ↔ (a.testBit i=true∨(i<n∧u.testBit i=true∧c i))
 | 0 => by simp [Qc9]
 | n + 1 => by
  rw [Qfi]
  have ih := Qi6 c u a i n
  by_cases hu : u.testBit n = true
  ·
   rw [if_pos hu]
   by_cases hc : c n
   ·
    rw [if_pos hc, Nat.testBit_or, Bool.or_eq_true, ih, Nat.testBit_two_pow, decide_eq_true_eq]
    constructor
    ·
     rintro ((h | ⟨h1, h2⟩) | h)
     ·
      exact .inl h
     ·
      exact .inr ⟨by omega, h2⟩
     ·
      subst h; exact .inr ⟨by omega, hu, hc⟩
    ·
     rintro (h | ⟨h1, h2⟩)
     ·
      exact .inl (.inl h)
     ·
      by_cases e : n = i
      ·
       exact .inr e
      ·
       exact .inl (.inr ⟨by omega, h2⟩)
   ·
    rw [if_neg hc, ih]
    refine or_congr_right ⟨fun h => ⟨by omega, h.2⟩, fun h => ⟨?_, h.2⟩⟩
    have : i ≠ n := fun e => by subst e; exact hc h.2.2
    omega
  ·
   rw [if_neg hu, ih]
   refine or_congr_right ⟨fun h => ⟨by omega, h.2⟩, fun h => ⟨?_, h.2⟩⟩
   have : i ≠ n := fun e => by subst e; exact hu h.2.1
   omega
theorem bot_bit {p:List Nat} {u:Nat} (hu:u<2 ^ p.length) (i:Nat):(bot p u).testBit i=true ↔ u.testBit i=true∧ ∀ j,(less p i).testBit j=true→u.testBit j=false:=by
 unfold bot
 rw [Qi6 (fun e => less p e &&& u = 0), Nat.zero_testBit]
 constructor
 ·
  rintro (h | ⟨h1, h2, h3⟩)
  ·
   cases h
  ·
   exact ⟨h2, Ql6.mp h3⟩
 ·
  rintro ⟨h1, h2⟩
  exact .inr ⟨Qe1 hu h1, h1, Ql6.mpr h2⟩
theorem put_lt {n:Nat} (c:Nat→Prop) [DecidablePred c] (u:Nat):Qc9 n u (fun o e=>if c e then o|||2 ^ e else o) 0<2 ^ n:=
 Qgy _ _ _ _ (· < 2 ^ n) (Nat.two_pow_pos _) (fun a e ha he _ => by
  split
  ·
   exact Nat.or_lt_two_pow ha (Nat.pow_lt_pow_right (by decide) he)
  ·
   exact ha)
theorem Qmd {p:List Nat} (u:Nat):bot p u<2 ^ p.length:=put_lt _ u
def row (p:List Nat) (s:Nat):Nat:=Qfw p (bot p (sd (full p) s))
theorem co_lt {p:List Nat} (s:Nat):sd (full p) s<2 ^ p.length:=Qh5 s (Qgq p)
theorem co_bit {p:List Nat} {s i:Nat} :(sd (full p) s).testBit i=true ↔ i<p.length∧s.testBit i=false:=by
 rw [Qhu, Qgz, Bool.and_eq_true, decide_eq_true_eq, Bool.not_eq_true']
theorem row_lt {p:List Nat} (g:Good p) (s:Nat):row p s<2 ^ p.length:=close_lt g (Qmd _)
theorem Qht {p:List Nat} (g:Good p) {s:Nat} (hs:IsId p s) (i:Nat):(row p s).testBit i=true ↔ ∃ e,e<p.length∧s.testBit e=false∧(∀ j,(less p e).testBit j=true→s.testBit j=true)∧(e=i∨(less p e).testBit i=true):=by
 unfold row
 rw [Qih (Qmd _)]
 have hb : ∀ e, (bot p (sd (full p) s)).testBit e = true ↔ e < p.length ∧ s.testBit e = false ∧ (∀ j, (less p e).testBit j = true → s.testBit j = true) := by
  intro e
  rw [bot_bit (co_lt s), co_bit, and_assoc]
  refine and_congr_right fun h1 => and_congr_right fun h2 => forall_congr' fun j => forall_congr' fun hj => ?_
  have b := g.bit hj
  rw [← Bool.not_eq_true, co_bit, not_and, Bool.not_eq_false]
  exact ⟨fun h => h (by omega), fun h _ => h⟩
 constructor
 ·
  rintro (h | ⟨e, h, hl⟩)
  ·
   have := (hb i).mp h
   exact ⟨i, this.1, this.2.1, this.2.2, .inl rfl⟩
  ·
   have := (hb e).mp h
   exact ⟨e, this.1, this.2.1, this.2.2, .inr hl⟩
 ·
  rintro ⟨e, h1, h2, h3, h4⟩
  rcases h4 with h4 | h4
  ·
   subst h4; exact .inl ((hb e).mpr ⟨h1, h2, h3⟩)
  ·
   exact .inr ⟨e, (hb e).mpr ⟨h1, h2, h3⟩, h4⟩
theorem row_id {p:List Nat} (g:Good p) {s:Nat} (hs:IsId p s):IsId p (row p s):=by
 refine ⟨row_lt g s, fun e he i hi => ?_⟩
 rw [Qht g hs] at he ⊢
 obtain ⟨f, h1, h2, h3, h4⟩ := he
 refine ⟨f, h1, h2, h3, .inr ?_⟩
 rcases h4 with h4 | h4
 ·
  rw [h4]; exact hi
 ·
  exact g.tr' h4 hi
structure Mid (p : List Nat) (s t : Nat) (P : Nat → Prop) (x : Nat) : Prop where
 id : IsId p x
 on : ∀ i, i < p.length → P i → x.testBit i = t.testBit i
 off : ∀ i, i < p.length → ¬ P i → x.testBit i = s.testBit i
theorem Mid.step {p:List Nat} {s t x i:Nat} {P Q:Nat→Prop} (I:Mid p s t P x) (hi:i<p.length) (hQ: ∀ k,k<p.length→(Q k ↔ P k∨k=i)) (h:(tg p x i).testBit i=t.testBit i):Mid p s t Q (tg p x i):=by
 refine ⟨tg_id I.id hi, fun k hk hq => ?_, fun k hk hq => ?_⟩
 ·
  by_cases c : i = k
  ·
   subst c; exact h
  ·
   rw [tg_ne c]
   rcases (hQ k hk).mp hq with h | h
   ·
    exact I.on k hk h
   ·
    exact absurd h.symm c
 ·
  rw [tg_ne (fun c => hq ((hQ k hk).mpr (.inr c.symm)))]
  exact I.off k hk fun h => hq ((hQ k hk).mpr (.inl h))
theorem Mid.same {p:List Nat} {s t x:Nat} {P Q:Nat→Prop} (I:Mid p s t P x) (hQ: ∀ k,k<p.length→(Q k ↔ P k)):Mid p s t Q x:=
 ⟨I.id, fun k hk h => I.on k hk ((hQ k hk).mp h), fun k hk h => I.off k hk fun h2 => h ((hQ k hk).mpr h2)⟩
theorem Mid.all {p:List Nat} {s t x:Nat} {P:Nat→Prop} (I:Mid p s t P x) (ht:t<2 ^ p.length) (h: ∀ i,i<p.length→P i):x=t:=by
 apply Nat.eq_of_testBit_eq
 intro i
 by_cases hi : i < p.length
 ·
  exact I.on i hi (h i hi)
 ·
  have big : ∀ y, y < 2 ^ p.length → y.testBit i = false := fun y hy => Nat.testBit_lt_two_pow (Nat.lt_of_lt_of_le hy (Nat.pow_le_pow_right (by decide) (by omega)))
  rw [big x I.id.1, big t ht]
theorem Mid.none {p:List Nat} {s:Nat} (t:Nat) (hs:IsId p s) {P:Nat→Prop} (h: ∀ i,i<p.length→ ¬ P i):Mid p s t P s:=
 ⟨hs, fun i hi hp => absurd hp (h i hi), fun _ _ _ => rfl⟩
theorem Mid.row {p:List Nat} (g:Good p) {s x i:Nat} {P Q:Nat→Prop} (hs:IsId p s) (I:Mid p s (row p s) P x) (hi:i<p.length) (hP: ¬ P i) (up: ∀ k,(less p k).testBit i=true→P k)
  (dn : ∀ j, (less p i).testBit j = true → ¬ P j) (hQ : ∀ k, k < p.length → (Q k ↔ P k ∨ k = i)) : Mid p s (M.row p s) Q (tg p x i) := by
 refine I.step hi hQ ?_
 have xi := I.off i hi hP
 rw [Bool.eq_iff_iff, tg_eq g I.id hi, xi]
 cases hb : s.testBit i
 ·
  constructor
  ·
   rintro (h | ⟨_, h⟩)
   ·
    cases h.1
   ·
    rw [Qht g hs]
    refine ⟨i, hi, hb, fun j hj => ?_, .inl rfl⟩
    have b := g.bit hj
    rw [← I.off j (by omega) (dn j hj)]; exact h j hj
  ·
   intro h
   rw [Qht g hs] at h
   obtain ⟨e, h1, h2, h3, h4⟩ := h
   refine .inr ⟨rfl, fun f hf => ?_⟩
   have b := g.bit hf
   rw [I.off f (by omega) (dn f hf)]
   rcases h4 with h4 | h4
   ·
    rw [h4] at h3; exact h3 f hf
   ·
    have := h3 i h4
    rw [hb] at this; cases this
 ·
  constructor
  ·
   rintro (⟨_, f, hf, hl⟩ | h)
   ·
    have b := g.bit hl
    have := I.on f b.2 (up f hl)
    rw [hf] at this
    exact (row_id g hs).2 f this.symm i hl
   ·
    cases h.1
  ·
   intro h
   rw [Qht g hs] at h
   obtain ⟨e, h1, h2, h3, h4⟩ := h
   rcases h4 with h4 | h4
   ·
    subst h4; rw [hb] at h2; cases h2
   ·
    refine .inl ⟨rfl, e, ?_, h4⟩
    rw [I.on e h1 (up e h4), Qht g hs]
    exact ⟨e, h1, h2, h3, .inl rfl⟩
def top (p:List Nat) (s:Nat):Nat:=Qc9 p.length s (fun o e=>sd o (less p e)) s
theorem top_lt {p:List Nat} {s:Nat} (hs:s<2 ^ p.length):top p s<2 ^ p.length:=Qgy _ _ _ _ (· <2 ^ p.length) hs (fun a e ha _ _=>Qh5 _ ha)
theorem fold_row {p:List Nat} (g:Good p) {s:Nat} (hs:IsId p s):(List.range p.length).reverse.foldl (tg p) s=row p s:=by
 have : ∀ d n, n + d = p.length → Mid p s (row p s) (n ≤ ·) ((List.range' n d).reverse.foldl (tg p) s) := by
  intro d
  induction d with
  | zero => intro n hn; exact Mid.none _ hs (fun i _ h => by omega)
  | succ d ih =>
   intro n hn
   rw [List.range'_succ, List.reverse_cons, List.foldl_append]
   refine (ih (n + 1) (by omega)).row g hs (by omega) (by omega) (fun k hk => ?_) (fun j hj => ?_) (fun k _ => by omega)
   ·
    have := g.bit hk; omega
   ·
    have := g.bit hj; omega
 have h := this p.length 0 (by omega)
 rw [← List.range_eq_range'] at h
 exact h.all (row_lt g s) (fun i hi => Nat.zero_le _)
theorem Qig {p:List Nat} (g:Good p) (u:Nat) (hu:u<2 ^ p.length): ∀ (d q a:Nat),q+d=(Qcp u).length→a<2 ^ p.length→
  Ev (fun k => Qby.l0 k (u : Int) (a : Int) (toI (Qcp u)) ((toI (Qcp u)).length : Int) (q : Int) (toI p)) (((((Qcp u).drop q).foldl (fun o e => if less p e &&& u = 0 then o ||| 2 ^ e else o) a : Nat)) : Int)
 | 0, q, a, h, ha => by
  refine Ev.step (fun _ => Qby.l0.eq_2 ..) (Q2 (by rw [toI_len]; omega) ?_)
  rw [List.drop_of_length_le (by omega)]; exact Ev.now _
 | d + 1, q, a, h, ha => by
  have gl := g.le
  have hq : q < (Qcp u).length := by omega
  have hm := Qgj hq
  have hb := Qe1 hu hm.2
  have hl := Qfb u
  have h2 := Qiy hb
  refine Ev.step (fun _ => Qby.l0.eq_2 ..) ?_
  rw [Qg4 hq]
  refine Qk (by rw [toI_len]; omega) (Qk (by omega) (Qk (by rw [toI_len]; omega) (Qk (by omega) (Qk (by rw [toI_len]; omega) ?_))))
  rw [Qez, Qmc (g.lt63 _) (g.len63 hu), Qbv (by omega), Qgu (by omega), Qhn (g.len63 ha) (g.len63 h2), List.drop_eq_getElem_cons hq, List.foldl_cons]
  refine Qcg (fun e => ?_) (fun e => ?_)
  ·
   rw [if_pos (by omega)]
   exact Qig g u hu d (q + 1) _ (by omega) (Nat.or_lt_two_pow ha h2)
  ·
   rw [if_neg (by omega)]
   exact Qig g u hu d (q + 1) _ (by omega) ha
theorem Qoq {p:List Nat} (g:Good p) {u:Nat} (hu:u<2 ^ p.length):Ev (fun k=>Qby.f k (toI p) (u:Int)) ((bot p u:Nat):Int):=by
 refine Ev.bind (Qfz (g.len63 hu)) ?_
 have h := Qig g u hu _ 0 0 (Nat.zero_add _) (Nat.two_pow_pos _)
 rw [List.drop_zero, Qfj _ _ hu g.le] at h
 exact h
theorem row_ev {p:List Nat} (g:Good p) {s:Nat} (hs:s<2 ^ p.length):Ev (fun k=>Qcs.f k (toI p) (s:Int)) ((row p s:Nat):Int):=by
 refine Q5 (Qj6 g.le) ?_
 rw [Qd4 (g.len63 (Qgq p)) (g.len63 hs)]
 exact Ev.bind (Qoq g (co_lt s)) (Ev.bind (Qh0 g (Qmd _)) (Ev.now _))
theorem Qio {p:List Nat} (g:Good p) (u:Nat) (hu:u<2 ^ p.length): ∀ (d i a:Nat),i+d=p.length→a<2 ^ p.length→
  Ev (fun k => Qck.l0 k (u : Int) (a : Int) (toI p) ((toI p).length : Int) (i : Int)) (((List.range' i d).foldl (fun o e => if u.testBit e = true then o ||| less p e else o) a : Nat) : Int)
 | 0, i, a, h, ha => Ev.step (fun _ => Qck.l0.eq_2 ..) (Q2 (by rw [toI_len]; omega) (Ev.now _))
 | d + 1, i, a, h, ha => by
  have gl := g.le
  refine Ev.step (fun _ => Qck.l0.eq_2 ..) (Qk (by rw [toI_len]; omega) (Qk (by omega) (Qk (by rw [toI_len]; omega) (Q5 (Qgh (by omega)) ?_))))
  rw [Qez, Qhn (g.len63 ha) (g.lt63 _), Qbv (by omega), List.range'_succ, List.foldl_cons]
  refine Qcg (fun e => ?_) (fun e => ?_)
  ·
   rw [if_pos e]; exact Qio g u hu d (i + 1) _ (by omega) (Nat.or_lt_two_pow ha (g.lt10 _))
  ·
   rw [if_neg e]; exact Qio g u hu d (i + 1) _ (by omega) ha
theorem Qo4 {p:List Nat} (g:Good p) {u:Nat} (hu:u<2 ^ p.length):Ev (fun k=>Qck.f k (toI p) (u:Int)) ((Qfw p u:Nat):Int):=by
 have h := Qio g u hu p.length 0 u (by omega) hu
 rw [← List.range_eq_range'] at h
 exact h
theorem Qjt {p:List Nat} (g:Good p) (u:Nat) (hu:u<2 ^ p.length): ∀ (d i a:Nat),i+d=p.length→a<2 ^ p.length→
  Ev (fun k => Qco.l0 k (u : Int) (a : Int) (toI p) ((toI p).length : Int) (i : Int)) (((List.range' i d).foldl (fun o e => if u.testBit e = true then sd o (less p e) else o) a : Nat) : Int)
 | 0, i, a, h, ha => Ev.step (fun _ => Qco.l0.eq_2 ..) (Q2 (by rw [toI_len]; omega) (Ev.now _))
 | d + 1, i, a, h, ha => by
  have gl := g.le
  refine Ev.step (fun _ => Qco.l0.eq_2 ..) (Qk (by rw [toI_len]; omega) (Qk (by omega) (Qk (by rw [toI_len]; omega) (Q5 (Qgh (by omega)) ?_))))
  rw [Qez, Qd4 (g.len63 ha) (g.lt63 _), Qbv (by omega), List.range'_succ, List.foldl_cons]
  refine Qcg (fun e => ?_) (fun e => ?_)
  ·
   rw [if_pos e]; exact Qjt g u hu d (i + 1) _ (by omega) (Qh5 _ ha)
  ·
   rw [if_neg e]; exact Qjt g u hu d (i + 1) _ (by omega) ha
theorem poTop_ev {p:List Nat} (g:Good p) {u:Nat} (hu:u<2 ^ p.length):Ev (fun k=>Qco.f k (toI p) (u:Int)) ((top p u:Nat):Int):=by
 have h := Qjt g u hu p.length 0 u (by omega) hu
 rw [← List.range_eq_range'] at h
 exact h
theorem Qmm {α β:Type} {f:Nat→α→Option β} {r:α→β} : ∀ l:List α,(∀ x ∈ l,Ev (fun k=>f k x) (r x))→ ∃ K,∀ k,K≤k→ ∀ x ∈ l,f k x=some (r x)
 | [], _ => ⟨0, fun _ _ x hx => absurd hx (by simp)⟩
 | a :: l, h => by
  obtain ⟨K, hK⟩ := Qmm l fun x hx => h x (List.mem_cons_of_mem _ hx)
  obtain ⟨K', hK'⟩ := h a List.mem_cons_self
  refine ⟨max K K', fun k hk x hx => ?_⟩
  rcases List.mem_cons.mp hx with e | hx
  ·
   subst e; exact hK' k (by omega)
  ·
   exact hK k (by omega) x hx
def idls (p:List Nat):List Nat:=(List.range (2 ^ p.length)).filter (Qep p)
theorem Qg3 {p:List Nat} (g:Good p):2 ^ p.length≤1024:=Nat.pow_le_pow_right (by omega) (show p.length≤10 from g.le)
theorem Qg0 {p:List Nat} (g:Good p):(idls p).length≤1024:=by
 unfold idls
 have := List.length_filter_le (Qep p) (List.range (2 ^ p.length))
 rw [List.length_range] at this
 exact Nat.le_trans this (Qg3 g)
theorem Qgg {p:List Nat} {s:Nat} :s ∈ idls p ↔ IsId p s:=by
 unfold idls
 rw [List.mem_filter, List.mem_range]
 constructor
 ·
  rintro ⟨h1, h2⟩; exact (Qe4 h1).mp h2
 ·
  intro h; exact ⟨h.1, (Qe4 h.1).mpr h⟩
theorem Qkg (p:List Nat):(idls p).Nodup:=List.Pairwise.filter _ List.nodup_range
theorem Qhk {p:List Nat} (g:Good p): ∀ (d i:Nat) (acc:List Nat),i+d=2 ^ p.length→acc.length≤i→
  Ev (fun k => Qb7.l0 k (toI acc) (i : Int) (toI p)) (toI (acc ++ (List.range' i d).filter (Qep p)))
 | 0, i, acc, h, ha => by
  refine Ev.step (fun _ => Qb7.l0.eq_2 ..) ?_
  have gl := g.le
  rw [toI_len, Qgu (by omega)]
  refine Q2 (by omega) ?_
  rw [List.range'_zero, List.filter_nil, List.append_nil]
  exact Ev.now _
 | d + 1, i, acc, h, ha => by
  refine Ev.step (fun _ => Qb7.l0.eq_2 ..) ?_
  have gl := g.le
  have gp := Qg3 g
  rw [toI_len, Qgu (by omega), List.range'_succ, List.filter_cons, Qbv (by omega)]
  refine Qk (by omega) (Ev.bind (Qh2 g (show i < 2 ^ p.length by omega)) (Qcg (fun e => ?_) (fun e => ?_)))
  ·
   rw [if_pos e]
   refine Qk (by rw [toI_len]; omega) ?_
   rw [← Qe8, ← Qe7]
   have e2 := Qhk g d (i + 1) (acc ++ [i]) (by omega) (by rw [List.length_append, List.length_singleton]; omega)
   rw [List.append_assoc] at e2
   exact e2
  ·
   rw [if_neg e]
   exact Qhk g d (i + 1) _ (by omega) (by omega)
theorem Qno {p:List Nat} (g:Good p):Ev (fun k=>Qb7.f k (toI p)) (toI (idls p)):=by
 have := Qhk g (2 ^ p.length) 0 [] (by omega) (Nat.le_refl 0)
 rw [List.nil_append, ← List.range_eq_range'] at this
 exact this
theorem Qk6 {p:List Nat} (g:Good p) (i:Fn1) (hi: ∀ s:Nat,s<2 ^ p.length→i.p (s:Int)=some (Qep p s)) (N:Nat) (hN:N=2 ^ p.length): ∀ (d q:Nat) (acc:List Nat),q+d=N→acc.length≤q→
  Ev (fun k => @Qbt.l0 i k (toI acc) (N : Int) (q : Int)) (toI (acc ++ (List.range' q d).filter (Qep p)))
 | 0, q, acc, h, ha => by
  refine Ev.step (fun _ => @Qbt.l0.eq_2 i ..) (Q2 (by omega) ?_)
  rw [List.range'_zero, List.filter_nil, List.append_nil]
  exact Ev.now _
 | d + 1, q, acc, h, ha => by
  refine Ev.step (fun _ => @Qbt.l0.eq_2 i ..) ?_
  have gp := Qg3 g
  rw [← hN] at gp
  rw [List.range'_succ, List.filter_cons, Qbv (by omega)]
  refine Qk (by omega) (Q5 (hi q (by rw [← hN]; omega)) (Qcg (fun e => ?_) (fun e => ?_)))
  ·
   rw [if_pos e]
   refine Qk (by rw [toI_len]; omega) ?_
   rw [← Qe8, ← Qe7]
   have e2 := Qk6 g i hi N hN d (q + 1) (acc ++ [q]) (by omega) (by rw [List.length_append, List.length_singleton]; omega)
   rw [List.append_assoc] at e2
   exact e2
  ·
   rw [if_neg e]
   exact Qk6 g i hi N hN d (q + 1) _ (by omega) (by omega)
theorem Qh8 {p:List Nat} (g:Good p):Ev (fun k=>Qb0.f k (toI p)) (toI (idls p)):=by
 obtain ⟨K, hK⟩ := Qmm (f := fun k (s : Nat) => Q9.f k (toI p) (s : Int)) (r := fun s => ((Qfw p s : Nat) : Int)) (List.range (2 ^ p.length)) fun s hs => Qh0 g (List.mem_range.mp hs)
 have hi : ∀ k, K ≤ k → ∀ s : Nat, s < 2 ^ p.length → (Qb0.inst k (toI p)).p (s : Int) = some (Qep p s) := by
  intro k hk s hs
  show (Q9.f k (toI p) (s : Int)).map (· == (s : Int)) = some (Qep p s)
  rw [hK k hk s (List.mem_range.mpr hs), Option.map_some]
  refine congrArg some ?_
  rw [Bool.eq_iff_iff, beq_iff_eq, Qe4 hs, ← Qgx hs]
  omega
 obtain ⟨K', h⟩ := Qk6 g _ (hi K (Nat.le_refl _)) _ rfl (2 ^ p.length) 0 [] (by omega) (Nat.le_refl 0)
 refine Ev.of (Qb0.mono _) (k := max K K') ?_
 unfold Qb0.f Qbt.f
 have gl := g.le
 have e1 : wrap64 (((full p : Nat) : Int) + 1) = ((2 ^ p.length : Nat) : Int) := by
  have h2 := Nat.two_pow_pos p.length
  have gp := Qg3 g
  unfold full
  rw [show (((2 ^ p.length - 1 : Nat) : Int) + 1) = ((2 ^ p.length : Nat) : Int) by omega]
  exact Qc1 (by omega) (by omega)
 rw [Qj6 gl, Option.bind_some, e1]
 have h3 := h (max K K') (by omega)
 rw [List.nil_append, ← List.range_eq_range'] at h3
 refine Qb0.mono_i _ _ (fun s r hr => ?_) _ _ _ _ _ h3
 obtain ⟨v, hv, e⟩ := Option.map_eq_some_iff.mp hr
 exact Option.map_eq_some_iff.mpr ⟨v, Qli (Q9.mono _ _) (show K ≤ max K K' by omega) hv, e⟩
def okI (s t:Int):Bool:=decide (Go.bits .andNot .i64 t s=0)
def Qfl (s:Int) (w:Int→Int):List Int→Int→Int
 | [], a => a
 | t :: l, a => Qfl s w l (if Go.bits .andNot .i64 t s = 0 then wrap64 (a + w t) else a)
def sumI (c:Int→Bool) (w:Int→Int):List Int→Int
 | [] => 0
 | t :: l => (if c t = true then w t else 0) + sumI c w l
theorem wrap_add (a b:Int):wrap64 (wrap64 a+b)=wrap64 (a+b):=by unfold wrap64;omega
theorem Qjl (s:Int) (w:Int→Int): ∀ (l:List Int) (a:Int),Qfl s w l (wrap64 a)=wrap64 (a+sumI (okI s) w l)
 | [], a => by rw [Qfl, sumI, Int.add_zero]
 | t :: l, a => by
  rw [Qfl, sumI]
  by_cases h : Go.bits .andNot .i64 t s = 0
  ·
   rw [if_pos h, wrap_add, Qjl s w l, if_pos (show okI s t = true from decide_eq_true h), Int.add_assoc]
  ·
   rw [if_neg h, Qjl s w l, if_neg (show ¬ okI s t = true from fun e => h (of_decide_eq_true e)), Int.zero_add]
theorem Qlw:wrap64 0=0:=by unfold wrap64;omega
theorem Qkc (s:Int) (w:Int→Int) (l:List Int):Qfl s w l 0=wrap64 (sumI (okI s) w l):=by
 have := Qjl s w l 0
 rw [Qlw, Int.zero_add] at this; exact this
def ways (L:List Int):Nat→Int→Int
 | 0, _ => 1
 | j + 1, t => Qfl t (ways L j) L 0
theorem rd_map {L:List Int} {w:Int→Int} {i:Nat} (h:i<L.length):rd (L.map w) (i:Int)=w L[i] :=by rw [Qer (by simpa using h)];simp
theorem Qn2 (A B:List Int) (z x:Int) (i:Nat) (h:A.length=i):(A++z::B).set i x=A++x::B:=by subst h;simp
theorem Qmh (b:Int) (L:List Int) (hL:L.length≤1024) (r:Int × Bool) (c:Ev (fun k=>Ql.l1 k b L (L.map (ways L 0)) 1) r): ∀ (d i:Nat) (X:List Int),i+d=L.length→X=(L.take i).map (ways L 0)++List.replicate d 0→
  Ev (fun k => Ql.l0 k b L X (L.length : Int) (i : Int)) r
 | 0, i, X, h, hx => by
  refine Ev.step (fun _ => Ql.l0.eq_2 ..) (Q2 (by omega) ?_)
  rw [hx, List.take_of_length_le (by omega)]
  simpa using c
 | d + 1, i, X, h, hx => by
  have hi : i < L.length := by omega
  have hl : X.length = L.length := by rw [hx]; simp; omega
  refine Ev.step (fun _ => Ql.l0.eq_2 ..) (Qk (by omega) (Qk (by omega) (Qk (by omega) ?_)))
  rw [Qbv (by omega), Int.toNat_natCast]
  refine Qmh b L hL r c d (i + 1) _ (by omega) ?_
  have e : X.set i 1 = (L.take i).map (ways L 0) ++ (1 :: List.replicate d 0) := by
   rw [hx, List.replicate_succ]
   exact Qn2 _ _ _ _ _ (by simp; omega)
  rw [e, List.take_succ_eq_append_getElem hi, List.map_append, List.append_assoc]
  rfl
theorem Qjj (b:Int) (L:List Int) (hL:L.length≤1024) (w:Int→Int) (x9 s:Int) (i:Nat) (hi:i<L.length) (r:Int × Bool): ∀ (d q:Nat) (X:List Int),q+d=L.length→X.length=L.length→
  Ev (fun k => Ql.l2 k b L (L.map w) x9 (X.set i (Qfl s w (L.drop q) (rd X (i : Int)))) L (L.length : Int) ((i + 1 : Nat) : Int)) r →
  Ev (fun k => Ql.l3 k b L (L.map w) x9 X (i : Int) s L (L.length : Int) (i : Int) L (L.length : Int) (q : Int)) r
 | 0, q, X, h, hx, c => by
  refine Ev.step (fun _ => Ql.l3.eq_2 ..) (Q2 (by omega) ?_)
  rw [Qbv (by omega)]
  rw [List.drop_of_length_le (by omega), Qfl, Qer (by omega : i < X.length), List.set_getElem_self] at c
  exact c
 | d + 1, q, X, h, hx, c => by
  have hq : q < L.length := by omega
  refine Ev.step (fun _ => Ql.l3.eq_2 ..) (Qk (by omega) (Qk (by omega) (Qk (by omega) ?_)))
  rw [List.drop_eq_getElem_cons hq, Qfl] at c
  rw [Qer hq, Qbv (by omega)]
  refine Qcg (fun e => ?_) (fun e => ?_)
  ·
   rw [if_pos e] at c
   refine Qk (by omega) (Qk (by omega) (Qk (by rw [List.length_map]; omega) ?_))
   rw [rd_map hq, Int.toNat_natCast]
   refine Qjj b L hL w x9 s i hi r d (q + 1) _ (by omega) (by rw [List.length_set]; exact hx) ?_
   rw [List.set_set, Qer (by rw [List.length_set]; omega), List.getElem_set_self]
   exact c
  ·
   rw [if_neg e] at c
   exact Qjj b L hL w x9 s i hi r d (q + 1) X (by omega) hx c
theorem Qmi (b:Int) (L:List Int) (hL:L.length≤1024) (w:Int→Int) (x9:Int) (r:Int × Bool) (c:Ev (fun k=>Ql.l1 k b L (L.map fun t=>Qfl t w L 0) (wrap64 (x9+1))) r): ∀ (d i:Nat) (X:List Int),i+d=L.length→X=(L.take i).map (fun t=>Qfl t w L 0)++List.replicate d 0→
  Ev (fun k => Ql.l2 k b L (L.map w) x9 X L (L.length : Int) (i : Int)) r
 | 0, i, X, h, hx => by
  refine Ev.step (fun _ => Ql.l2.eq_2 ..) (Q2 (by omega) ?_)
  rw [hx, List.take_of_length_le (by omega)]
  simpa using c
 | d + 1, i, X, h, hx => by
  have hi : i < L.length := by omega
  have hl : X.length = L.length := by rw [hx]; simp; omega
  refine Ev.step (fun _ => Ql.l2.eq_2 ..) (Qk (by omega) (Qk (by omega) (Qk (by omega) ?_)))
  rw [Qer hi]
  refine Qjj b L hL w x9 L[i] i hi r L.length 0 X (by omega) hl ?_
  have e0 : rd X (i : Int) = 0 := by
   rw [Qer (by omega)]
   subst hx
   rw [List.getElem_append_right (by simp; omega)]
   simp
  rw [e0, List.drop_zero]
  refine Qmi b L hL w x9 r c d (i + 1) _ (by omega) ?_
  have e : X.set i (Qfl L[i] w L 0) = (L.take i).map (fun t => Qfl t w L 0) ++ (Qfl L[i] w L 0 :: List.replicate d 0) := by
   rw [hx, List.replicate_succ]
   exact Qn2 _ _ _ _ _ (by simp; omega)
  rw [e, List.take_succ_eq_append_getElem hi, List.map_append, List.append_assoc]
  rfl
theorem Qmj (V:List Int) (hV:V.length≤1024): ∀ (d i:Nat) (a:Int),i+d=V.length→Ev (fun k=>Ql.l4 k a V (V.length:Int) (i:Int)) ((V.drop i).foldl (fun a v=>wrap64 (a+v)) a,true)
 | 0, i, a, h => by
  refine Ev.step (fun _ => Ql.l4.eq_2 ..) (Q2 (by omega) ?_)
  rw [List.drop_of_length_le (by omega)]
  exact Ev.now _
 | d + 1, i, a, h => by
  have hi : i < V.length := by omega
  refine Ev.step (fun _ => Ql.l4.eq_2 ..) (Qk (by omega) (Qk (by omega) (Qk (by omega) ?_)))
  rw [Qer hi, Qbv (by omega), List.drop_eq_getElem_cons hi, List.foldl_cons]
  exact Qmj V hV d (i + 1) _ (by omega)
theorem Qke (w:Int→Int): ∀ (l:List Int) (a:Int),(l.map w).foldl (fun a v=>wrap64 (a+v)) (wrap64 a)=wrap64 (a+sumI (fun _=>true) w l)
 | [], a => by rw [List.map_nil, List.foldl_nil, sumI, Int.add_zero]
 | t :: l, a => by rw [List.map_cons, List.foldl_cons, wrap_add, Qke w l, sumI, if_pos rfl, Int.add_assoc]
def Qfn (L:List Int) (b:Nat):Int:=if b=0 then 1 else wrap64 (sumI (fun _=>true) (ways L (b - 1)) L)
theorem Qji (b:Nat) (hb:b≤20) (L:List Int) (hL:L.length≤1024): ∀ (d j:Nat),j+d=b∨(b=0∧j=1∧d=0)→1≤j→
  Ev (fun k => Ql.l1 k (b : Int) L (L.map (ways L (j - 1))) (j : Int)) (Qfn L b, true)
 | 0, j, h, h1 => by
  refine Ev.step (fun _ => Ql.l1.eq_2 ..) (Q2 (by omega) ?_)
  unfold Qfn
  refine Qcg (fun e => ?_) (fun e => ?_)
  ·
   rw [if_pos (by omega)]; exact Ev.now _
  ·
   rw [if_neg (by omega)]
   have := Qmj (L.map (ways L (j - 1))) (by simpa using hL) (L.map (ways L (j - 1))).length 0 0 (by omega)
   rw [List.drop_zero] at this
   have e2 := Qke (ways L (j - 1)) L 0
   rw [Qlw, Int.zero_add] at e2
   rw [e2] at this
   rw [show b - 1 = j - 1 by omega]
   exact this
 | d + 1, j, h, h1 => by
  refine Ev.step (fun _ => Ql.l1.eq_2 ..) (Qk (by omega) (Qk (by omega) (Qk (by rw [Int.toNat_natCast]; omega) ?_)))
  refine Qmi (b : Int) L hL _ (j : Int) _ ?_ L.length 0 _ (by omega) (by simp)
  rw [Qbv (by omega)]
  have ih := Qji b hb L hL d (j + 1) (by omega) (by omega)
  rw [show j + 1 - 1 = (j - 1) + 1 by omega] at ih
  exact ih
theorem Qob (c:Int→Bool): ∀ a b:List (Int × Int),Qb.vis c (fun _=>false) (a++b)=Qb.vis c (fun _=>false) a+Qb.vis c (fun _=>false) b
 | [], b => by rw [List.nil_append, Qb.vis, Int.zero_add]
 | p :: a, b => by rw [List.cons_append, Qb.vis, Qb.vis, Qob c a b, Int.add_assoc]
theorem Qlc (c:Int→Bool) (w:Int→Int): ∀ l:List Int,Qb.vis c (fun _=>false) (l.map fun t=>(t,w t)).reverse=sumI c w l
 | [] => rfl
 | t :: l => by
  rw [List.map_cons, List.reverse_cons, Qob, Qlc c w l, Qb.vis, Qb.vis, sumI]
  simp only [Bool.not_false, Bool.and_true, Int.add_zero]
  rw [Int.add_comm]
theorem Qm2 (c:Int→Bool): ∀ {rows:List (Int × Int)} {p:Int × Int},p ∈ rows→c p.1=true→Qb.met c (fun _=>false) rows=true
 | [], p, h, _ => by cases h
 | q :: l, p, h, hc => by
  rw [Qb.met]
  rcases List.mem_cons.mp h with rfl | h
  ·
   rw [hc]; rfl
  ·
   rw [Qm2 c h hc, Bool.or_true]
theorem Qjv (rows:List (Int × Int)): ∀ (l:List Int) (nx:List (Int × Int)),(∀ t ∈ l,Qb.met (okI t) (fun _=>false) rows=true)→
  Qb.step rows l nx = (l.map fun t => (t, wrap64 (Qb.vis (okI t) (fun _ => false) rows))).reverse ++ nx
 | [], nx, _ => rfl
 | t :: l, nx, h => by
  rw [Qb.step_cons, Qjv rows l _ fun x hx => h x (List.mem_cons_of_mem _ hx)]
  have e : Qb.cur t (fun _ => false) rows nx = (t, wrap64 (Qb.vis (okI t) (fun _ => false) rows)) :: nx := by
   unfold Qb.cur
   exact if_pos (h t List.mem_cons_self)
  rw [e]; simp
theorem Qll {L:List Int} (hs: ∀ t ∈ L,okI t t=true): ∀ (n j:Nat),Qb.iter L n ((L.map fun t=>(t,ways L j t)).reverse)=(L.map fun t=>(t,ways L (j+n) t)).reverse
 | 0, j => rfl
 | n + 1, j => by
  rw [Qb.iter, Qjv _ _ _ (fun t ht => Qm2 (okI t) (p := (t, ways L j t)) (List.mem_reverse.mpr (List.mem_map.mpr ⟨t, ht, rfl⟩)) (hs t ht)), List.append_nil]
  have e : (L.map fun t => (t, wrap64 (Qb.vis (okI t) (fun _ => false) (L.map fun t => (t, ways L j t)).reverse))) = L.map fun t => (t, ways L (j + 1) t) := by
   refine List.map_congr_left fun t _ => ?_
   rw [Qlc, ways, Qkc]
  rw [e, Qll hs n (j + 1), show j + 1 + n = j + (n + 1) by omega]
theorem iter_one {L:List Int} (hs: ∀ t ∈ L,okI t t=true) (h0: ∀ t ∈ L,okI t 0=true) (b:Nat):Qb.tot (Qb.iter L b [(0,1)])=Qfn L b:=by
 unfold Qb.tot Qfn
 match b with
 | 0 => rw [if_pos rfl, Qb.iter, Qb.vis, Qb.vis]; simp [wrap64]
 | n + 1 =>
  rw [if_neg (by omega), Qb.iter, Qjv _ _ _ (fun t ht => Qm2 (okI t) (p := (0, 1)) List.mem_cons_self (h0 t ht)), List.append_nil]
  have e : (L.map fun t => (t, wrap64 (Qb.vis (okI t) (fun _ => false) [((0 : Int), (1 : Int))]))) = L.map fun t => (t, ways L 0 t) := by
   refine List.map_congr_left fun t ht => ?_
   rw [Qb.vis, Qb.vis, h0 t ht, ways]
   simp [wrap64]
  rw [e, Qll hs n 0, Qlc, show 0 + n = n + 1 - 1 by omega]
theorem wf_nat {n:Nat} (h:n<9223372036854775807):(Lit.int .i64 (n:Int)).wf=true:=by
 unfold Lit.wf
 have e1 : IntKind.i64.min = -9223372036854775808 := by decide
 have e2 : IntKind.i64.max = 9223372036854775807 := by decide
 simp only [Bool.and_eq_true, decide_eq_true_eq, e1, e2]
 omega
theorem Qmg {p:List Nat} (g:Good p) {b:Nat} (hb:b≤20):Ev (fun k=>Qb.f k (toI p) (b:Int)) (Qfn (toI (idls p)) b):=by
 have hl := Qg0 g
 have gl := g.le
 have hm : ∀ t ∈ toI (idls p), ∃ s : Nat, t = (s : Int) ∧ s < 1024 := by
  intro t ht
  obtain ⟨s, hs, rfl⟩ := List.mem_map.mp ht
  exact ⟨s, rfl, Nat.lt_of_lt_of_le (Qgg.mp hs).1 (Qg3 g)⟩
 refine Ev.bind (Qh8 g) ?_
 refine Qk ⟨by rw [toI_len]; omega, ?_, ?_, by omega, by omega⟩ ?_
 ·
  refine List.all_eq_true.mpr fun t ht => ?_
  obtain ⟨s, rfl, h⟩ := hm t ht
  exact wf_nat (by omega)
 ·
  refine (Qb.nd_iff _).mpr ?_
  unfold toI
  exact List.Pairwise.map Int.ofNat (fun a b h e => h (Int.ofNat.inj e)) (Qkg p)
 ·
  rw [Int.toNat_natCast, iter_one]
  ·
   exact Ev.now _
  ·
   intro t ht
   obtain ⟨s, rfl, h⟩ := hm t ht
   refine decide_eq_true ?_
   rw [Qd4 (Nat.lt_trans h (by decide)) (Nat.lt_trans h (by decide))]
   have : sd s s = 0 := by
    apply Nat.eq_of_testBit_eq
    intro i
    simp [sd]
   rw [this]; rfl
  ·
   intro t ht
   obtain ⟨s, rfl, h⟩ := hm t ht
   refine decide_eq_true ?_
   have e := Qd4 (a := 0) (by decide) (Nat.lt_trans h (by decide))
   rw [show ((0 : Nat) : Int) = 0 from rfl] at e
   rw [e]
   have : sd 0 s = 0 := by
    apply Nat.eq_of_testBit_eq
    intro i
    simp [sd]
   rw [this]; rfl
theorem Qgw (l:List Int) (b:Int) (hl:l.length≤1048576): ∃ r:Int × Bool,Ev (fun k=>Ql.f k l b) r∧Ev (fun k=>Qcw.f k l b) r:=by
 by_cases h1 : Qej l = true
 ·
  by_cases h2 : inB b 0 20 = true
  ·
   obtain ⟨p, rfl, g⟩ := Qd8 h1
   have b2 := Qdc.mp h2
   obtain ⟨n, rfl⟩ : ∃ n : Nat, b = (n : Int) := ⟨b.toNat, by omega⟩
   by_cases h3 : p.length ≤ 6
   ·
    have hl2 := Qg0 g
    refine ⟨(Qfn (toI (idls p)) n, true), ?_, ?_⟩
    ·
     refine Ev.bind (Qd2 _) (Qk h1 (Q2 (by rw [toI_len]; omega) (Q5 (Qgc _) ?_)))
     rw [h2]
     refine Ev.step (fun _ => Ql.j0.eq_2 ..) (Q2 (by simp) (Ev.bind (Qno g) (Qk (by omega) (Qk (by rw [Int.toNat_natCast, toI_len]; omega) (Q5 rfl ?_)))))
     rw [Int.toNat_natCast, List.length_replicate]
     refine Qmh (n : Int) _ (by rw [toI_len]; exact hl2) _ ?_ (toI (idls p)).length 0 _ (by omega) (by simp)
     by_cases hn : n = 0
     ·
      exact Qji n (by omega) _ (by rw [toI_len]; exact hl2) 0 1 (.inr ⟨hn, rfl, rfl⟩) (by omega)
     ·
      exact Qji n (by omega) _ (by rw [toI_len]; exact hl2) (n - 1) 1 (.inl (by omega)) (by omega)
    ·
     refine Ev.bind (Qea _ _) (Qk (by rw [h1, h2]; rfl) (Q5 (n_eq _) (Q2 (by rw [toI_len]; omega) (Ev.bind (Qmg g (by omega)) (Ev.now _)))))
   ·
    refine ⟨(0, false), ?_, ?_⟩
    ·
     exact Ev.bind (Qd2 _) (Qk h1 (Qk (by rw [toI_len]; omega) (Ev.step (fun _ => Ql.j0.eq_2 ..) (Qk rfl (Ev.now _)))))
    ·
     exact Ev.bind (Qea _ _) (Qk (by rw [h1, h2]; rfl) (Q5 (n_eq _) (Qk (by rw [toI_len]; omega) (Ev.now _))))
  ·
   refine ⟨(0, false), ?_, ?_⟩
   ·
    refine Ev.bind (Qd2 _) (Qk h1 (Qcg (fun _ => Ev.step (fun _ => Ql.j0.eq_2 ..) (Qk rfl (Ev.now _))) (fun _ => Q5 (Qgc _) ?_)))
    rw [Bool.eq_false_iff.mpr h2]
    exact Ev.step (fun _ => Ql.j0.eq_2 ..) (Qk rfl (Ev.now _))
   ·
    exact Ev.bind (Qea _ _) (Q2 (by rw [Bool.eq_false_iff.mpr h2, Bool.and_false]; simp) (Ev.now _))
 ·
  refine ⟨(0, false), ?_, ?_⟩
  ·
   exact Ev.bind (Qd2 _) (Q2 h1 (Ev.step (fun _ => Ql.j0.eq_2 ..) (Qk rfl (Ev.now _))))
  ·
   exact Ev.bind (Qea _ _) (Q2 (by rw [Bool.eq_false_iff.mpr h1, Bool.false_and]; simp) (Ev.now _))
end Go.Proofs.Ytkgngggppcmpfaa.M
end
section
namespace Go.Proofs.Ytkgngggppcmpfaa.M
open Go.RowKit Go.Proofs.YtkgngggppcmpfaaW.PrintWords Go.Proofs.YtkgngggppcmpfaaW.PrintLast Go.Proofs.YtkgngggppcmpfaaW.PrintMore Go.Proofs.Ytkgngggppcmpfaa.L
end Go.Proofs.Ytkgngggppcmpfaa.M
end
section
namespace Go.Proofs.Ytkgngggppcmpfaa.M
open Go.RowKit Go.Proofs.YtkgngggppcmpfaaW.PrintWords Go.Proofs.YtkgngggppcmpfaaW.PrintLast Go.Proofs.YtkgngggppcmpfaaW.PrintMore Go.Proofs.Ytkgngggppcmpfaa.L
set_option linter.unusedVariables false
def Qj3 (r:List (List Int)):Prop:=r.length≤100000∧ ∀ x ∈ r,x.length≤100000
theorem Qnz {r:List (List Int)} {i:Nat} (h:i<r.length):Qce r (i:Int)=r[i] :=by unfold Qce;simp [List.getD_eq_getElem?_getD,h]
def allN (p:List Nat) (b:Nat):Nat→List Nat→List (List Nat)
 | 0, x => [x]
 | d + 1, x => (List.range' (lowN p x x.length) (b + 1 - lowN p x x.length)).flatMap fun y => allN p b d (x ++ [y])
theorem Qhw (p:List Nat) (b:Nat): ∀ d x,(allN p b d x).length≤(b+1) ^ d
 | 0, x => Nat.le_refl _
 | d + 1, x => by
  have key : ∀ (l : List Nat), (l.flatMap fun y => allN p b d (x ++ [y])).length ≤ l.length * (b + 1) ^ d := fun l => by
   induction l with
   | nil => exact Nat.zero_le _
   | cons y l ih =>
    have := Qhw p b d (x ++ [y])
    rw [List.flatMap_cons, List.length_append, List.length_cons, Nat.succ_mul]
    omega
  rw [allN, Nat.pow_succ, Nat.mul_comm]
  refine Nat.le_trans (key _) (Nat.mul_le_mul_right _ ?_)
  rw [List.length_range']; omega
theorem Ql5 (p:List Nat) (b:Nat): ∀ d x,∀ y ∈ allN p b d x,y.length=x.length+d
 | 0, x, y, h => by rw [allN, List.mem_singleton] at h; subst h; rfl
 | d + 1, x, y, h => by
  rw [allN, List.mem_flatMap] at h
  obtain ⟨z, _, hz⟩ := h
  have := Ql5 p b d _ y hz
  rw [List.length_append, List.length_singleton] at this
  omega
theorem Qmy (F:List Nat): ∀ (js:List Nat) (a:Nat),(∀ j ∈ js,j<F.length)→Qi.least (toI F) (toI js) (a:Int)=some ((js.foldl (fun o j=>max o (F.getD j 0)) a:Nat):Int)
 | [], a, _ => rfl
 | j :: js, a, h => by
  have hj := h j List.mem_cons_self
  show Qi.least (toI F) ((j : Int) :: toI js) (a : Int) = _
  rw [Qi.least, if_pos (by rw [toI_len]; omega), Qek, Qm4, Qmy F js _ fun x hx => h x (List.mem_cons_of_mem _ hx)]
  rfl
theorem Qmp (x z:List Nat) {j:Nat} (h:j<x.length):(x++z).getD j 0=x.getD j 0:=by
 rw [List.getD_eq_getElem?_getD, List.getD_eq_getElem?_getD, List.getElem?_append_left h]
theorem low_pre {p:List Nat} (g:Good p) (x z:List Nat) (h:x.length<p.length):(Qcp (less p x.length)).foldl (fun o j=>max o ((x++z).getD j 0)) 0=lowN p x x.length:=by
 have hl := g.lt _ h
 have h10 := g.le
 unfold lowN
 rw [Qfj _ _ (show less p x.length < 2 ^ p.length from g.lt10 _) h10]
 unfold Qc9
 refine Qhj _ _ fun a e he => ?_
 by_cases c : (less p x.length).testBit e = true
 ·
  have := (g.bit c).1
  rw [if_pos c, if_pos c]
  show max a ((x ++ z).getD e 0) = max a (x.getD e 0)
  rw [Qmp x z this]
 ·
  rw [if_neg c, if_neg c]
theorem set_end (x:List Nat) (w:Nat) (z:List Nat) (y:Nat):(toI (x++w::z)).set x.length (y:Int)=toI (x++ [y] ++z):=by
 rw [Qi2, List.set_append_right _ _ (Nat.le_refl _), Nat.sub_self, List.set_cons_zero, List.append_assoc]; rfl
theorem put_ok {p:List Nat} (g:Good p) {b k:Nat} (hb:b≤20) (hk: ∀ i ∈ List.range p.length,Qbr.f k ((less p i:Nat):Int)=some (toI (Qcp (less p i)))): ∀ (d:Nat) (x z:List Nat) (O:List (List Int)),x.length+d=p.length→z.length=d→(∀ y ∈ x,y≤b)→O.length+(allN p b d x).length≤1000000→
  ∃ z', z'.length = d ∧ Qi.put k (toI p) (b : Int) d (x.length : Int) (toI (x ++ z)) O = some (toI (x ++ z'), O ++ (allN p b d x).map toI)
 | 0, x, z, O, h, hz, hx, hO => by
  have hp := g.le
  rw [allN, List.length_singleton] at hO
  refine ⟨z, hz, ?_⟩
  rw [Qi.put, if_pos (by rw [toI_len]; omega), if_pos ⟨by rw [toI_len, List.length_append]; omega, by omega⟩, allN]
  have : z = [] := List.eq_nil_of_length_eq_zero hz
  subst this
  rw [List.append_nil]; rfl
 | d + 1, x, z, O, h, hz, hx, hO => by
  have hp := g.le
  have hi : x.length < p.length := by omega
  rw [Qi.put, if_neg (by rw [toI_len]; omega), if_pos (by rw [toI_len]; omega), Qez, hk x.length (List.mem_range.mpr hi), Option.bind_some, if_pos (by have := Qfb (less p x.length); rw [toI_len]; omega)]
  have hl := Qmy (x ++ z) (Qcp (less p x.length)) 0 fun j hj => by
   have := (g.bit (Qhe.mp hj).2).1
   rw [List.length_append]; omega
  rw [low_pre g x z hi] at hl
  rw [show ((0 : Nat) : Int) = 0 from rfl] at hl
  rw [hl, Option.bind_some]
  rw [allN] at hO ⊢
  generalize lowN p x x.length = lo at hO ⊢
  have key : ∀ (c kk : Nat) (z : List Nat) (O : List (List Int)), (kk + c = b + 1 ∨ (c = 0 ∧ b < kk)) → z.length = d + 1 → O.length + ((List.range' kk c).flatMap fun y => allN p b d (x ++ [y])).length ≤ 1000000 →
    ∃ z', z'.length = d + 1 ∧ Qi.loop (Qi.put k (toI p) (b : Int) d (wrap64 ((x.length : Int) + 1))) (x.length : Int) (b : Int) c (kk : Int) (toI (x ++ z)) O = some (toI (x ++ z'), O ++ ((List.range' kk c).flatMap fun y => allN p b d (x ++ [y])).map toI) := by
   intro c
   induction c with
   | zero =>
    intro kk z O hc hz hO
    refine ⟨z, hz, ?_⟩
    rw [Qi.loop, if_neg (by omega)]
    simp
   | succ c ih =>
    intro kk z O hc hz hO
    obtain ⟨w, z1, rfl⟩ : ∃ w z1, z = w :: z1 := by
     cases z with
     | nil => cases hz
     | cons w z1 => exact ⟨w, z1, rfl⟩
    rw [List.length_cons] at hz
    rw [List.range'_succ, List.flatMap_cons, List.length_append] at hO
    rw [Qi.loop, if_pos (by omega), if_pos (by rw [toI_len, List.length_append, List.length_cons]; omega), Int.toNat_natCast, set_end]
    have hp2 := put_ok g hb hk d (x ++ [kk]) z1 O (by rw [List.length_append, List.length_singleton]; omega) (by omega) (fun y hy => by
     rcases List.mem_append.mp hy with hy | hy
     ·
      exact hx y hy
     ·
      rw [List.mem_singleton] at hy; omega) (by omega)
    obtain ⟨z2, hz2, e2⟩ := hp2
    rw [Qbv (by omega)]
    rw [List.length_append, List.length_singleton] at e2
    rw [e2, Option.bind_some, Qbv (by omega)]
    have ih2 := ih (kk + 1) (kk :: z2) (O ++ (allN p b d (x ++ [kk])).map toI) (by omega) (by rw [List.length_cons]; omega) (by rw [List.length_append, List.length_map]; omega)
    obtain ⟨z3, hz3, e3⟩ := ih2
    refine ⟨z3, hz3, ?_⟩
    rw [Qbv (by omega)] at e3
    rw [List.append_assoc, List.singleton_append, e3, List.range'_succ, List.flatMap_cons, List.map_append, List.append_assoc]
  have e : ((b : Int) + 1 - (lo : Int)).toNat = b + 1 - lo := by omega
  rw [e]
  exact key (b + 1 - lo) lo z O (by omega) hz hO
theorem Qlm {p:List Nat} (g:Good p) {b:Nat} (hb:b≤4) (hp:p.length≤6):Ev (fun k=>Qi.f k (toI p) (b:Int)) ((allN p b p.length []).map toI):=by
 obtain ⟨K, hK⟩ := Qmm (f := fun k (i : Nat) => Qbr.f k ((less p i : Nat) : Int)) (r := fun i => toI (Qcp (less p i))) (List.range p.length) fun i _ => Qfz (g.lt63 i)
 refine ⟨K, fun k hk => ?_⟩
 have hl := Qhw p b p.length []
 have hl2 : (b + 1) ^ p.length ≤ 5 ^ 6 := Nat.le_trans (Nat.pow_le_pow_left (show b + 1 ≤ 5 by omega) _) (Nat.pow_le_pow_right (by omega) hp)
 obtain ⟨z, hz, e⟩ := put_ok g (b := b) (by omega) (hK k hk) p.length [] (List.replicate p.length 0) [] (by simp) (by simp) (fun y hy => by cases hy) (by rw [List.length_nil]; omega)
 show Qi.f k (toI p) (b : Int) = _
 unfold Qi.f
 rw [if_pos (by rw [toI_len]; omega), toI_len]
 have e0 : List.replicate p.length (0 : Int) = toI ([] ++ List.replicate p.length 0) := by rw [List.nil_append, ← Qk9]; rfl
 rw [e0]
 have e1 : Qi.put k (toI p) (b : Int) p.length 0 (toI ([] ++ List.replicate p.length 0)) [] = _ := e
 rw [e1]; rfl
theorem Qn5 {p:List Nat} (g:Good p) (x:List Nat) (hx:x.length<p.length) (b:Int) (R:List (List Int)) (c:Ev (fun k=>Qbl.l1 k (toI x) b [] ((lowN p x x.length:Nat):Int) (toI p)) R): ∀ (d q a:Nat),q+d=x.length→a=(List.range q).foldl (fun o j=>if (less p x.length).testBit j=true then max o (x.getD j 0) else o) 0→
  Ev (fun k => Qbl.l0 k (toI x) b (x.length : Int) (a : Int) (toI x) (x.length : Int) (q : Int) (toI p)) R
 | 0, q, a, h, ha => by
  have hp := g.le
  refine Ev.step (fun _ => Qbl.l0.eq_2 ..) (Q2 (by omega) ?_)
  have e : a = lowN p x x.length := by
   have hq : q = x.length := by omega
   subst hq
   rw [ha]
   unfold lowN
   rw [Qi5 (n := x.length) _ _ (g.lt _ hx) (by omega)]
   rfl
  rw [e]; exact c
 | d + 1, q, a, h, ha => by
  have hp := g.le
  have ih := Qn5 g x hx b R c d (q + 1)
  refine Ev.step (fun _ => Qbl.l0.eq_2 ..) (Qk (by omega) (Qk (by omega) (Qk (by rw [toI_len]; omega) (Qk (by omega) (Qk (by rw [toI_len]; omega) ?_)))))
  rw [Qez, Qek, Qbv (by omega)]
  refine Q5 (Qgh (by omega)) (Qcg (fun e => ?_) (fun e => ?_))
  ·
   refine Q5 (Qoi _ _) (ih _ (by omega) ?_)
   rw [List.range_succ, List.foldl_append, List.foldl_cons, List.foldl_nil, if_pos e, ha]
  ·
   refine ih a (by omega) ?_
   rw [List.range_succ, List.foldl_append, List.foldl_cons, List.foldl_nil, if_neg e, ha]
theorem Qn4 {p:List Nat} (g:Good p) {b:Nat} (hb:b≤4) (hp:p.length≤6): ∀ (d:Nat) (x:List Nat),x.length+d=p.length→Ev (fun k=>Qbl.f k (toI p) (toI x) (b:Int)) ((allN p b d x).map toI)
 | 0, x, h => by
  refine Ev.step (fun _ => Qbl.f.eq_2 ..) (Qk (by rw [toI_len, toI_len]; omega) (Q5 (Qjq _ (by rw [toI_len]; omega)) ?_))
  exact Ev.now _
 | d + 1, x, h => by
  have key : ∀ (c y : Nat) (out : List (List Int)), (y + c = b + 1 ∨ (c = 0 ∧ b < y)) → out.length + c * 5 ^ d ≤ 1000000 →
    Ev (fun k => Qbl.l1 k (toI x) (b : Int) out (y : Int) (toI p)) (out ++ ((List.range' y c).flatMap fun y => allN p b d (x ++ [y])).map toI) := by
   intro c
   induction c with
   | zero =>
    intro y out hc ho
    refine Ev.step (fun _ => Qbl.l1.eq_2 ..) (Q2 (by omega) ?_)
    simpa using Ev.now out
   | succ c ih =>
    intro y out hc ho
    rw [Nat.succ_mul] at ho
    have hl := Qhw p b d (x ++ [y])
    have hl2 : (b + 1) ^ d ≤ 5 ^ d := Nat.pow_le_pow_left (by omega) d
    refine Ev.step (fun _ => Qbl.l1.eq_2 ..) (Qk (by omega) (Q5 (Qjq _ (by rw [toI_len]; omega)) (Q5 rfl (Qk (by rw [toI_len, List.length_singleton]; omega) ?_))))
    rw [← Qe8, ← Qe7]
    refine Ev.bind (Qn4 g hb hp d (x ++ [y]) (by rw [List.length_append, List.length_singleton]; omega)) (Qk (by rw [List.length_map]; omega) ?_)
    rw [Qbv (by omega), List.range'_succ, List.flatMap_cons, List.map_append, ← List.append_assoc]
    exact ih (y + 1) _ (by omega) (by rw [List.length_append, List.length_map]; omega)
  refine Ev.step (fun _ => Qbl.f.eq_2 ..) (Q2 (by rw [toI_len, toI_len]; omega) ?_)
  rw [toI_len]
  have h5 : 5 * 5 ^ d ≤ 5 * 5 ^ 5 := Nat.mul_le_mul_left _ (Nat.pow_le_pow_right (by omega) (by omega))
  have hc : (b + 1 - lowN p x x.length) * 5 ^ d ≤ 5 * 5 ^ d := Nat.mul_le_mul_right _ (by omega)
  have k2 := key (b + 1 - lowN p x x.length) (lowN p x x.length) [] (by omega) (by rw [List.length_nil]; omega)
  rw [List.nil_append] at k2
  exact Qn5 g x (by omega) (b : Int) _ k2 x.length 0 0 (Nat.zero_add _) rfl
theorem Qhi (l:List Int) (b:Int) (hl:l.length≤1048576): ∃ r:List (List Int) × Bool,Qj3 r.1∧Ev (fun k=>Qds.f k l b) r∧Ev (fun k=>Qdg.f k l b) r:=by
 have no : Qj3 (([], false) : List (List Int) × Bool).1 := ⟨Nat.zero_le _, fun x hx => by cases hx⟩
 by_cases h : Qej l = true
 ·
  obtain ⟨p, rfl, g⟩ := Qd8 h
  have hp := g.le
  by_cases h2 : inB b 0 4 = true
  ·
   have b2 := Qdc.mp h2
   obtain ⟨c, rfl⟩ : ∃ c : Nat, b = (c : Int) := ⟨b.toNat, by omega⟩
   by_cases h3 : p.length ≤ 6
   ·
    refine ⟨((allN p c p.length []).map toI, true), ⟨?_, fun x hx => ?_⟩, ?_, ?_⟩
    ·
     rw [List.length_map]
     have hl2 : (c + 1) ^ p.length ≤ 5 ^ 6 := Nat.le_trans (Nat.pow_le_pow_left (show c + 1 ≤ 5 by omega) _) (Nat.pow_le_pow_right (by omega) h3)
     have := Qhw p c p.length []
     omega
    ·
     obtain ⟨y, hy, rfl⟩ := List.mem_map.mp hx
     have := Ql5 p c _ _ y hy
     rw [List.length_nil] at this
     rw [toI_len]; omega
    ·
     refine Ev.bind (Qd2 _) (Qk h (Q2 (by rw [toI_len]; omega) (Q5 (Qgf _ _ _) (Qk h2 ?_))))
     exact Ev.bind (Qn4 g (by omega) h3 p.length [] (by simp)) (Ev.now _)
    ·
     refine Ev.bind (Qen _) (Qk h (Q5 (Qei _ _ _) (Qk h2 (Q5 (n_eq _) (Q2 (by rw [toI_len]; omega) ?_)))))
     exact Ev.bind (Qlm g (by omega) h3) (Ev.now _)
   ·
    refine ⟨([], false), no, ?_, ?_⟩
    ·
     exact Ev.bind (Qd2 _) (Qk h (Qk (by rw [toI_len]; omega) (Ev.now _)))
    ·
     exact Ev.bind (Qen _) (Qk h (Q5 (Qei _ _ _) (Qk h2 (Q5 (n_eq _) (Qk (by rw [toI_len]; omega) (Ev.now _))))))
  ·
   refine ⟨([], false), no, ?_, ?_⟩
   ·
    refine Ev.bind (Qd2 _) (Qk h (Qcg (fun _ => Ev.now _) fun _ => Q5 (Qgf _ _ _) (Q2 h2 (Ev.now _))))
   ·
    exact Ev.bind (Qen _) (Qk h (Q5 (Qei _ _ _) (Q2 h2 (Ev.now _))))
 ·
  exact ⟨([], false), no, Ev.bind (Qd2 _) (Q2 h (Ev.now _)), Ev.bind (Qen _) (Q2 h (Ev.now _))⟩
end Go.Proofs.Ytkgngggppcmpfaa.M
end
