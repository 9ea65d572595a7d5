/- Laws about the given program: the law FnRowvacuation answers true for every input that its row lets in; no condition is added to the given statement. Contracts of the Go functions that it reaches, and the plain proof over lists. -/
import Derived.Test.YtkgngggppcmpfaaGreatWFnRowvacuation0
import Derived.Test.YtkgngggppcmpfaaGreatKFnRowvacuation0
import Derived.Test.YtkgngggppcmpfaaGreatKFnRowvacuation1
import Derived.Test.YtkgngggppcmpfaaGreatKFnRowvacuation2
import Derived.Test.YtkgngggppcmpfaaGreatKFnRowvacuation3
import Derived.Test.YtkgngggppcmpfaaGreatKFnRowvacuation4
import Derived.Test.YtkgngggppcmpfaaGreatKFnRowvacuation5
import Derived.Test.YtkgngggppcmpfaaGreatKFnRowvacuation6
import Derived.Test.YtkgngggppcmpfaaGreatKFnRowvacuation7
import Derived.Test.YtkgngggppcmpfaaGreatKFnRowvacuation8
section
namespace Go.Proofs.YtkgngggppcmpfaaGreat.L
open Go.RowKit Go.Proofs.YtkgngggppcmpfaaGreatW.PrintWords Go.Proofs.YtkgngggppcmpfaaGreatW.PrintLast Go.Proofs.YtkgngggppcmpfaaGreatW.PrintMore Go.Proofs.YtkgngggppcmpfaaGreat.X
attribute [local go_sem] Qt Qv Q2 Q3 Qm Qn Qu Qw
set_option linter.unusedVariables false
set_option linter.unusedSimpArgs false
def Qc6.l0 : Nat → Int → Int → List Int → Int → Int → Option (Bool)
 |0,_,_,_,_,_=>none
 |k+1,x1,x2,x9,x10,x11=>if x11<x10 then (if 0≤x11 then (if x11<(x9.length:Int) then ((Qde.f (rd x9 x11) x1 x2).bind fun t1049=>(if t1049=true then (Qc6.l0 k x1 x2 x9 x10 (wrap64 (x11+1))) else (some false))) else (none)) else (none)) else (some true)
def Qc6.f (k : Nat) (l0 : List Int) (a1 : Int) (a2 : Int) : Option (Bool) := Qc6.l0 k a1 a2 l0 (l0.length : Int) 0
theorem Qc6.mono_l : ∀ k, (∀ y0 y1 y2 y3 y4, LeO (Qc6.l0 k y0 y1 y2 y3 y4) (Qc6.l0 (k + 1) y0 y1 y2 y3 y4))
 |0=>fun _ _ _ _ _ r h=>by simp [Qc6.l0] at h
 |k+1=>by
  have ih0:=Qc6.mono_l k
  ·
   intro y0 y1 y2 y3 y4;unfold Qc6.l0
   repeat' first
   |(with_reducible exact ih0 _ _ _ _ _)
   |(with_reducible exact LeO.refl _)
   |(with_reducible exact LeO.none _)
   |(with_reducible refine LeO.ite ?_ ?_)
   |(with_reducible refine LeO.bind ?_ (fun _=> ?_))
   |exact ih0 _ _ _ _ _
   |exact LeO.none _
   |refine LeO.ite ?_ ?_
   |refine LeO.bind ?_ (fun _=> ?_)
theorem Qc6.mono : ∀ a0 a1 a2 k, LeO (Qc6.f k a0 a1 a2) (Qc6.f (k + 1) a0 a1 a2) := by
 intro a0 a1 a2 k;have ih0:=Qc6.mono_l k;unfold Qc6.f
 repeat' (with_reducible first|apply ih0|exact LeO.refl _|exact LeO.none _|refine LeO.ite ?_ ?_|refine LeO.bind ?_ (fun _=> ?_))
set_option maxHeartbeats 8000000 in
set_option maxRecDepth 100000 in
theorem Qc6.calls (k : Nat) (A0 : Option Addr) (c0 : Nat) (l0 : List Int) (a1 : Int) (a2 : Int) (r : Bool) (w : World) (hr0 : Kd.C (Kd.int .i64) w A0 l0.length l0) (hc0 : l0.length ≤ c0) (h : Qc6.f k l0 a1 a2 = some r) :
 Calls Tryz.prog 224 #[.slice A0 l0.length c0, .int .i64 a1, .int .i64 a2] w fun e w'=>e= .returned (.bool r)∧Drawn0 w w':=by
 have HR0:=Aside0.mk hr0;have HC0:=Aside0.mk hc0;clear hr0 hc0;have H:(Qc6.l0 k a1 a2 l0 (l0.length:Int) 0)=some r:=h;clear h;have H':=Aside0.mk H;clear H;go_enter Tryz.func224,Tryz.ntmps224;go_wp2
 go_loopg [11] k (fun kq v11 w'=> ∃ (x11_1:Int),v11= .int .i64 x11_1∧Aside0 (Qc6.l0 kq a1 a2 l0 (l0.length:Int) x11_1=some r)∧Aside0 (kq≤k)∧Drawn0 w w')
 case atStart=>exact ⟨(0),(by first|rfl|(simp;done)|(simp [*];done)),H',⟨Nat.le_refl _⟩,by repeat (first|exact Drawn0.refl _|apply Drawn0.step)⟩
 case round=>
  clear H'
  try clear c2
  try clear p2
  obtain ⟨x11_1,rfl,HA,HK1,⟨m1,rfl⟩⟩:=hrel;cases gk with
  |zero=>exact absurd HA.out (by simp [Qc6.l0])
  |succ k1=>
   have H:=HA.out;clear HA;simp only [Qc6.l0] at H
   by_cases c4:x11_1<(l0.length:Int)
   ·
    rw [if_pos c4] at H;have c4b0:=decide_eq_true c4;clear c4
    by_cases c5:0≤x11_1
    ·
     rw [if_pos c5] at H;have c5b0:=decide_eq_true c5;clear c5
     by_cases c6:x11_1<(l0.length:Int)
     ·
      rw [if_pos c6] at H;have c6b0:=decide_eq_true c6;clear c6;obtain ⟨t1049,A7,H⟩:=bs H;(try dsimp only at H)
      by_cases c8:t1049=true
      ·
       subst c8;rw [if_pos rfl] at H;have H':=Aside0.mk H;clear H;have p1048:0≤(x11_1:Int):=of_decide_eq_true (by first|(with_reducible assumption)|assumption);have q1048:x11_1<(l0.length:Int):=of_decide_eq_true (by first|(with_reducible assumption)|assumption);obtain ⟨ad1048,e1048,hx1048_0⟩:=Kd.at_int HR0.out x11_1 p1048 q1048;cases e1048;replace p1048:=eq_true p1048;replace q1048:=eq_true q1048;go_wp2_with (first|(refine gA (some 18) Tryz.func192 #[.int .i64 (rd l0 x11_1), .int .i64 a1, .int .i64 a2] ?_;(with_reducible refine (Qde.calls (rd l0 x11_1) a1 a2 true _ A7.out).mono ?_);rintro e w' ⟨rfl,⟨nd,rfl⟩⟩;refine ⟨_,rfl,?_⟩));go_roundg k1
       case measure=>have:=HK1.out;omega
       case rel=>exact ⟨(wrap64 (x11_1+1)),(by first|rfl|(simp;done)|(simp [*];done)),H',⟨by have:=HK1.out;omega⟩,by repeat (first|exact Drawn0.refl _|apply Drawn0.step)⟩
      ·
       replace c8:=Bool.eq_false_iff.mpr c8;subst c8;rw [if_neg (show ¬ (false=true) by decide)] at H;obtain rfl:=Option.some.inj H;have p1048:0≤(x11_1:Int):=of_decide_eq_true (by first|(with_reducible assumption)|assumption);have q1048:x11_1<(l0.length:Int):=of_decide_eq_true (by first|(with_reducible assumption)|assumption);obtain ⟨ad1048,e1048,hx1048_0⟩:=Kd.at_int HR0.out x11_1 p1048 q1048;cases e1048;replace p1048:=eq_true p1048;replace q1048:=eq_true q1048;go_wp2_with (first|(refine gA (some 18) Tryz.func192 #[.int .i64 (rd l0 x11_1), .int .i64 a1, .int .i64 a2] ?_;(with_reducible refine (Qde.calls (rd l0 x11_1) a1 a2 false _ A7.out).mono ?_);rintro e w' ⟨rfl,⟨nd,rfl⟩⟩;refine ⟨_,rfl,?_⟩))
       go_ret
       exact ⟨by first|rfl|(simp;done)|(simp [*];done),by repeat (first|exact Drawn0.refl _|apply Drawn0.step)⟩
     ·
      rw [if_neg c6] at H;exact absurd H (by simp)
    ·
     rw [if_neg c5] at H;exact absurd H (by simp)
   ·
    rw [if_neg c4] at H;have c4b0:=decide_eq_false c4;clear c4;obtain rfl:=Option.some.inj H;go_wp2
    go_ret
    exact ⟨by first|rfl|(simp;done)|(simp [*];done),by repeat (first|exact Drawn0.refl _|apply Drawn0.step)⟩
end Go.Proofs.YtkgngggppcmpfaaGreat.L
end
section
namespace Go.Proofs.YtkgngggppcmpfaaGreat.M
open Go.RowKit Go.Proofs.YtkgngggppcmpfaaGreatW.PrintWords Go.Proofs.YtkgngggppcmpfaaGreatW.PrintLast Go.Proofs.YtkgngggppcmpfaaGreatW.PrintMore Go.Proofs.YtkgngggppcmpfaaGreat.L
theorem Qj6 (x lo hi : Int) : Qde.f x lo hi = some (inB x lo hi) := by
 unfold Qde.f inB
 by_cases h : lo ≤ x <;> simp [h]
theorem Qid (x lo hi : Int) : Qc9.f x lo hi = some (inB x lo hi) := by
 unfold Qc9.f inB
 by_cases h : lo ≤ x <;> simp [h]
theorem Qn1 (l : List Int) (lo hi : Int) (hl : l.length ≤ 9223372036854775806) : ∀ (d i : Nat), i + d = l.length → Ev (fun k => Qc6.l0 k lo hi l (l.length : Int) i) ((l.drop i).all (inB · lo hi))
 | 0, i, h => by
  refine Ev.step (fun _ => rfl) (Qbj (by omega) ?_)
  rw [List.drop_of_length_le (by omega)]; exact Ev.now _
 | d + 1, i, h => by
  refine Ev.step (fun _ => rfl) (Qh (by omega) (Qh (by omega) (Qh (by omega) (Qbv (Qj6 _ _ _) ?_))))
  rw [Qjv (by omega : i < l.length), Qbz (by omega), List.drop_eq_getElem_cons (by omega : i < l.length), List.all_cons]
  refine Qc7 (fun e => ?_) (fun e => ?_)
  ·
   rw [e, Bool.true_and]; exact Qn1 l lo hi hl d (i + 1) (by omega)
  ·
   rw [Bool.eq_false_iff.mpr e, Bool.false_and]; exact Ev.now _
theorem Qn0 (l : List Int) (lo hi : Int) (hl : l.length ≤ 9223372036854775806) : Ev (fun k => Qc6.f k l lo hi) (l.all (inB · lo hi)) := Qn1 l lo hi hl l.length 0 (by omega)
end Go.Proofs.YtkgngggppcmpfaaGreat.M
end
section
namespace Go.Proofs.YtkgngggppcmpfaaGreat.M
open Go.RowKit Go.Proofs.YtkgngggppcmpfaaGreatW.PrintWords Go.Proofs.YtkgngggppcmpfaaGreatW.PrintLast Go.Proofs.YtkgngggppcmpfaaGreatW.PrintMore Go.Proofs.YtkgngggppcmpfaaGreat.L
set_option linter.unusedVariables false
theorem Qnu {s e : Nat} (hs : s < 2 ^ 63) (he : e ≤ 64) : Qel.f (s : Int) (e : Int) = some (s.testBit e) := by
 unfold Qel.f; rw [if_pos (by omega), bit_and hs he]
theorem Qfz {s e : Nat} (he : e ≤ 64) : Qcq.f (s : Int) (e : Int) = some (s.testBit e) := by
 unfold Qcq.f; rw [if_pos (by omega), Qoz he]
theorem Qkw (s : Nat) (hs : s < 2 ^ 63) : ∀ (d i : Nat) (acc : List Nat), i + d = 10 → acc.length ≤ i → Ev (fun k => Qbn.l0 k (s : Int) (toI acc) (i : Int)) (toI (acc ++ (List.range' i d).filter fun e => s.testBit e))
 | 0, i, acc, h, ha => by
  refine Ev.step (fun _ => Qbn.l0.eq_2 ..) (Qbj (by omega) ?_)
  simpa using Ev.now _
 | d + 1, i, acc, h, ha => by
  refine Ev.step (fun _ => Qbn.l0.eq_2 ..) (Qh (by omega) (Qbv (Qnu hs (by omega)) ?_))
  rw [Qbz (by omega), List.range'_succ]
  refine Qc7 (fun e => Qh (by rw [toI_len]; omega) ?_) (fun e => ?_)
  ·
   rw [← Qgq, ← Qgf, List.filter_cons_of_pos e]
   have := Qkw s hs d (i + 1) (acc ++ [i]) (by omega) (by simp; omega)
   simpa using this
  ·
   rw [List.filter_cons_of_neg e]
   exact Qkw s hs d (i + 1) acc (by omega) (by omega)
theorem Qgi {s : Nat} (hs : s < 2 ^ 63) : Ev (fun k => Qbn.f k (s : Int)) (toI (Qcy s)) := by
 have h := Qkw s hs 10 0 [] (by omega) (by simp)
 rw [List.nil_append, ← List.range_eq_range'] at h
 exact h
theorem n_eq (l : List Int) : Qcx.f l = some (l.length : Int) := rfl
theorem Qk8 {p : List Nat} (h : p.length ≤ 10) : Qda.f (toI p) = some ((full p : Nat) : Int) := by
 unfold Qda.f
 rw [n_eq, Option.bind_some, if_pos (by omega), toI_len, Qhw (by omega)]; rfl
theorem Qqa {m i : Nat} (hm : m < 2 ^ i) (hi : i ≤ 10) (g : Nat → Bool) : (Qcy m).all g = (List.range i).all fun j => !(m.testBit j) || g j := by
 rw [Bool.eq_iff_iff]
 simp only [List.all_eq_true, Qh6, List.mem_range, Bool.or_eq_true, Bool.not_eq_true']
 constructor
 ·
  intro h j hj
  cases hb : m.testBit j
  ·
   exact .inl rfl
  ·
   exact .inr (h j ⟨by omega, hb⟩)
 ·
  rintro h j ⟨_, hb⟩
  rcases h j (Qff hm hb) with h2 | h2
  ·
   rw [hb] at h2; cases h2
  ·
   exact h2
theorem Qgn {i : Nat} (h : i ≤ 10) : 2 ^ i ≤ 1024 := by
 have := Nat.pow_le_pow_right (n := 2) (by decide) h
 simpa using this
theorem Qj8 (l : List Int) (i : Nat) : rd l (i : Int) = l.getD i 0 := by simp [rd]
theorem Qls (l : List Int) (i m : Nat) (R : Bool) (hl : l.length ≤ 10) (hi : i < l.length) (hm : m < 2 ^ i) (ok : ∀ j, j < i → ∃ a : Nat, l.getD j 0 = (a : Int) ∧ a < 2 ^ j)
  (hR : Ev (fun k => Qbp.l0 k l (l.length : Int) ((i + 1 : Nat) : Int) l) R) : ∀ (d q : Nat), q + d = (Qcy m).length →
  Ev (fun k => Qbp.l1 k (m : Int) l (l.length : Int) (i : Int) (toI (Qcy m)) ((toI (Qcy m)).length : Int) (q : Int) l) (((Qcy m).drop q).all (fun j => sd (l.getD j 0).toNat m == 0) && R)
 | 0, q, h => by
  refine Ev.step (fun _ => Qbp.l1.eq_2 ..) (Qbj (by rw [toI_len]; omega) ?_)
  rw [List.drop_of_length_le (by omega), List.all_nil, Bool.true_and, Qbz (by omega)]
  exact hR
 | d + 1, q, h => by
  have hq : q < (Qcy m).length := by omega
  have hj : (Qcy m)[q] ∈ Qcy m := List.getElem_mem hq
  obtain ⟨_, hb⟩ := Qh6.mp hj
  have hji := Qff hm hb
  obtain ⟨a, ha, ha2⟩ := ok _ hji
  have e1 : rd (toI (Qcy m)) (q : Int) = (((Qcy m)[q] : Nat) : Int) := by rw [Qec]; simp [List.getD_eq_getElem?_getD, hq]
  have hlen := Qf6 m
  have hp1 := Qgn (show i ≤ 10 by omega)
  have hp2 := Qgn (show (Qcy m)[q] ≤ 10 by omega)
  refine Ev.step (fun _ => Qbp.l1.eq_2 ..) ?_
  rw [e1]
  refine Qh (by rw [toI_len]; omega) (Qh (by omega) (Qh (by rw [toI_len]; omega) (Qh (by omega) (Qh (by omega) ?_))))
  rw [Qj8, ha, Qfk (lt63 ha2 (by omega)) (lt63 hm (by omega)), Qbz (by omega), List.drop_eq_getElem_cons hq, List.all_cons, ha, Int.toNat_natCast]
  refine Qc7 (fun e => ?_) (fun e => ?_)
  ·
   have e' : sd a m = 0 := by omega
   rw [e', beq_self_eq_true, Bool.true_and]
   exact Qls l i m R hl hi hm ok hR d (q + 1) (by omega)
  ·
   have e' : (sd a m == 0) = false := by rw [beq_eq_false_iff_ne]; omega
   rw [e', Bool.false_and, Bool.false_and]
   exact Ev.now _
theorem Qlr (l : List Int) (hl : l.length ≤ 10) : ∀ (d i : Nat), i + d = l.length → (∀ j, j < i → ∃ a : Nat, l.getD j 0 = (a : Int) ∧ a < 2 ^ j) →
  Ev (fun k => Qbp.l0 k l (l.length : Int) (i : Int) l) ((List.range' i d).all (okAt l))
 | 0, i, h, ok => by
  refine Ev.step (fun _ => Qbp.l0.eq_2 ..) (Qbj (by omega) ?_)
  exact Ev.now _
 | d + 1, i, h, ok => by
  have hp1 := Qgn (show i ≤ 10 by omega)
  have hpos := Nat.two_pow_pos i
  refine Ev.step (fun _ => Qbp.l0.eq_2 ..) (Qh (by omega) (Qh (by omega) (Qh (by omega) (Qbv (Qid _ _ _) ?_))))
  rw [Qj8, Qhw (by omega), List.range'_succ, List.all_cons, Qn6 l i]
  refine Qc7 (fun e => ?_) (fun e => ?_)
  ·
   have b := Qex.mp e
   obtain ⟨m, hm⟩ : ∃ m : Nat, l.getD i 0 = (m : Int) := ⟨(l.getD i 0).toNat, by omega⟩
   rw [e, Bool.true_and, hm]
   have hm2 : m < 2 ^ i := by omega
   refine Ev.bind (Qgi (lt63 hm2 (by omega))) ?_
   have hnx := Qlr l hl d (i + 1) (by omega) (fun j hj => by
    by_cases hji : j = i
    ·
     subst hji; exact ⟨m, hm, hm2⟩
    ·
     exact ok j (by omega))
   have := Qls l i m _ hl (by omega) hm2 ok hnx (Qcy m).length 0 (by omega)
   rw [List.drop_zero, Qqa hm2 (by omega)] at this
   simpa using this
  ·
   rw [Bool.eq_false_iff.mpr e, Bool.false_and, Bool.false_and]
   exact Ev.now _
theorem Qi2 (l : List Int) : Ev (fun k => Qbp.f k l) (Qf1 l) := by
 refine Qbv (n_eq l) (Qbv (Qid _ _ _) ?_)
 unfold Qf1
 refine Qc7 (fun e => ?_) (fun e => ?_)
 ·
  have b := Qex.mp e
  rw [e, Bool.true_and]
  exact Qlr l (by omega) l.length 0 (by omega) (fun j hj => by omega)
 ·
  rw [Bool.eq_false_iff.mpr e, Bool.false_and]; exact Ev.now _
theorem Qmx (l : List Int) (i m : Nat) (R : Bool) (hl : l.length ≤ 10) (hi : i < l.length) (hm : m < 2 ^ i) (ok : ∀ j, j < i → ∃ a : Nat, l.getD j 0 = (a : Int) ∧ a < 2 ^ j)
  (hR : Ev (fun k => Qbb.l0 k l (l.length : Int) ((i + 1 : Nat) : Int) l) R) : ∀ (d j : Nat), j + d = i →
  Ev (fun k => Qbb.l1 k (i : Int) (m : Int) (j : Int) l (l.length : Int) (i : Int) l) ((List.range' j d).all (fun j => !(m.testBit j) || sd (l.getD j 0).toNat m == 0) && R)
 | 0, j, h => by
  refine Ev.step (fun _ => Qbb.l1.eq_2 ..) (Qbj (by omega) ?_)
  rw [Qbz (by omega)]
  simpa using hR
 | d + 1, j, h => by
  obtain ⟨a, ha, ha2⟩ := ok j (by omega)
  have hp1 := Qgn (show i ≤ 10 by omega)
  have hp2 := Qgn (show j ≤ 10 by omega)
  have ih := Qmx l i m R hl hi hm ok hR d (j + 1) (by omega)
  refine Ev.step (fun _ => Qbb.l1.eq_2 ..) (Qh (by omega) (Qh (by omega) ?_))
  rw [Qbz (by omega), List.range'_succ, List.all_cons, Qj8, ha, Qfk (lt63 ha2 (by omega)) (lt63 hm (by omega)), Int.toNat_natCast]
  refine Qc7 (fun e => ?_) (fun e => ?_)
  ·
   rw [Qnj (by omega)] at e
   rw [e, Bool.not_true, Bool.false_or]
   refine Qh (by omega) (Qc7 (fun e => ?_) (fun e => ?_))
   ·
    have e' : sd a m = 0 := by omega
    rw [e', beq_self_eq_true, Bool.true_and]; exact ih
   ·
    have e' : (sd a m == 0) = false := by rw [beq_eq_false_iff_ne]; omega
    rw [e', Bool.false_and, Bool.false_and]; exact Ev.now _
  ·
   rw [Qnj (by omega)] at e
   rw [Bool.eq_false_iff.mpr e, Bool.not_false, Bool.true_or, Bool.true_and]; exact ih
theorem Qmw (l : List Int) (hl : l.length ≤ 10) : ∀ (d i : Nat), i + d = l.length → (∀ j, j < i → ∃ a : Nat, l.getD j 0 = (a : Int) ∧ a < 2 ^ j) →
  Ev (fun k => Qbb.l0 k l (l.length : Int) (i : Int) l) ((List.range' i d).all (okAt l))
 | 0, i, h, ok => by
  refine Ev.step (fun _ => Qbb.l0.eq_2 ..) (Qbj (by omega) ?_)
  exact Ev.now _
 | d + 1, i, h, ok => by
  have hp1 := Qgn (show i ≤ 10 by omega)
  have hpos := Nat.two_pow_pos i
  refine Ev.step (fun _ => Qbb.l0.eq_2 ..) (Qh (by omega) (Qh (by omega) (Qh (by omega) (Qbv (Qj6 _ _ _) ?_))))
  rw [Qj8, Qhw (by omega), List.range'_succ, List.all_cons, Qn6 l i]
  refine Qc7 (fun e => ?_) (fun e => ?_)
  ·
   have b := Qex.mp e
   obtain ⟨m, hm⟩ : ∃ m : Nat, l.getD i 0 = (m : Int) := ⟨(l.getD i 0).toNat, by omega⟩
   rw [e, Bool.true_and, hm]
   have hm2 : m < 2 ^ i := by omega
   have hnx := Qmw l hl d (i + 1) (by omega) (fun j hj => by
    by_cases hji : j = i
    ·
     subst hji; exact ⟨m, hm, hm2⟩
    ·
     exact ok j (by omega))
   have := Qmx l i m _ hl (by omega) hm2 ok hnx i 0 (by omega)
   simpa [List.range_eq_range'] using this
  ·
   rw [Bool.eq_false_iff.mpr e, Bool.false_and, Bool.false_and]
   exact Ev.now _
theorem Qe5 (l : List Int) : Ev (fun k => Qbb.f k l) (Qf1 l) := by
 refine Qbv (Qj6 _ _ _) ?_
 unfold Qf1
 refine Qc7 (fun e => ?_) (fun e => ?_)
 ·
  have b := Qex.mp e
  rw [e, Bool.true_and]
  exact Qmw l (by omega) l.length 0 (by omega) (fun j hj => by omega)
 ·
  rw [Bool.eq_false_iff.mpr e, Bool.false_and]; exact Ev.now _
def setB (l : List Int) (s : Int) : Bool := Qf1 l && inB s 0 ((2 ^ l.length - 1 : Nat) : Int)
def idB (l : List Int) (s : Int) : Bool := setB l s && Qei (l.map Int.toNat) s.toNat
theorem Qka {l : List Int} {s : Int} (h : setB l s = true) : ∃ (p : List Nat) (t : Nat), l = toI p ∧ s = (t : Int) ∧ Good p ∧ t < 2 ^ p.length := by
 simp only [setB, Bool.and_eq_true, Qex] at h
 obtain ⟨p, rfl, g⟩ := Qfr h.1
 have := Nat.two_pow_pos p.length
 rw [toI_len] at h
 exact ⟨p, s.toNat, rfl, by omega, g, by omega⟩
theorem Qfc (p : List Nat) : (toI p).map Int.toNat = p := by
 simp only [toI, List.map_map]
 exact (List.map_congr_left (fun x _ => by simp)).trans (List.map_id p)
theorem idB_of {l : List Int} {s : Int} (h : idB l s = true) : ∃ (p : List Nat) (t : Nat), l = toI p ∧ s = (t : Int) ∧ Good p ∧ IsId p t := by
 simp only [idB, Bool.and_eq_true] at h
 obtain ⟨p, t, rfl, rfl, g, ht⟩ := Qka h.1
 have h2 := h.2
 rw [Qfc, Int.toNat_natCast] at h2
 exact ⟨p, t, rfl, rfl, g, (Qe8 ht).mp h2⟩
theorem Qpb {p : List Nat} {t : Nat} (g : Good p) (ht : t < 2 ^ p.length) : setB (toI p) (t : Int) = true := by
 simp only [setB, Bool.and_eq_true, Qex, toI_len]
 exact ⟨Qh4 g, by omega, by omega⟩
theorem Qln {p : List Nat} {t : Nat} (g : Good p) (ht : IsId p t) : idB (toI p) (t : Int) = true := by
 simp only [idB, Bool.and_eq_true]
 refine ⟨Qpb g ht.1, ?_⟩
 rw [Qfc, Int.toNat_natCast]; exact (Qe8 ht.1).mpr ht
theorem Good.len63 {p : List Nat} (g : Good p) {s : Nat} (h : s < 2 ^ p.length) : s < 2 ^ 63 := M.lt63 h (by have := g.le; omega)
theorem Qnz (l : List Int) (s : Int) : Ev (fun k => Qdz.f k l s) (setB l s) := by
 refine Ev.bind (Qi2 l) ?_
 unfold setB
 refine Qc7 (fun e => ?_) (fun e => ?_)
 ·
  obtain ⟨p, rfl, g⟩ := Qfr e
  rw [e, Bool.true_and, toI_len]
  exact Qbv (Qk8 g.le) (Qbv (Qid _ _ _) (Ev.now _))
 ·
  rw [Bool.eq_false_iff.mpr e, Bool.false_and]; exact Ev.now _
theorem Qg9 {m q : Nat} (hq : q < (Qcy m).length) : (Qcy m)[q] < 10 ∧ m.testBit (Qcy m)[q] = true := Qh6.mp (List.getElem_mem hq)
theorem Qhu {m q : Nat} (hq : q < (Qcy m).length) : rd (toI (Qcy m)) (q : Int) = (((Qcy m)[q] : Nat) : Int) := by rw [Qec]; simp [List.getD_eq_getElem?_getD, hq]
theorem Qnn {p : List Nat} (g : Good p) (s : Nat) (hs : s < 2 ^ p.length) : ∀ (d q a : Nat), q + d = (Qcy s).length → a < 2 ^ p.length →
  Ev (fun k => Qbe.l0 k (a : Int) (toI (Qcy s)) ((toI (Qcy s)).length : Int) (q : Int) (toI p)) (((((Qcy s).drop q).foldl (fun o e => o ||| less p e) a : Nat)) : Int)
 | 0, q, a, h, ha => by
  refine Ev.step (fun _ => Qbe.l0.eq_2 ..) (Qbj (by rw [toI_len]; omega) ?_)
  rw [List.drop_of_length_le (by omega)]; exact Ev.now _
 | d + 1, q, a, h, ha => by
  have hq : q < (Qcy s).length := by omega
  have hm := Qg9 hq
  have hb := Qff hs hm.2
  have hl := Qf6 s
  refine Ev.step (fun _ => Qbe.l0.eq_2 ..) ?_
  rw [Qhu hq, toI_len, toI_len]
  refine Qh (by omega) (Qh (by omega) (Qh (by omega) (Qh (by omega) (Qh (by omega) ?_))))
  rw [Qe0, Qgb (g.len63 ha) (g.lt63 _), Qbz (by omega), List.drop_eq_getElem_cons hq, List.foldl_cons, ← toI_len]
  exact Qnn g s hs d (q + 1) _ (by omega) (Nat.or_lt_two_pow ha (g.lt10 _))
theorem Qhq {p : List Nat} (g : Good p) {s : Nat} (hs : s < 2 ^ p.length) : Ev (fun k => Qbe.f k (toI p) (s : Int)) ((Qgc p s : Nat) : Int) := by
 refine Ev.bind (Qgi (g.len63 hs)) ?_
 have h := Qnn g s hs (Qcy s).length 0 s (by omega) hs
 rw [List.drop_zero, Qfg _ _ hs g.le] at h
 exact h
theorem Qge (l : List Int) (s : Int) : Ev (fun k => Qcr.f k l s) (idB l s) := by
 refine Ev.bind (Qnz l s) ?_
 unfold idB
 refine Qc7 (fun e => ?_) (fun e => ?_)
 ·
  obtain ⟨p, t, rfl, rfl, g, ht⟩ := Qka e
  rw [e, Bool.true_and, Qfc, Int.toNat_natCast, ← Qmo ht]
  refine Ev.bind (Qhq g ht) ?_
  have : (((Qgc p t : Nat) : Int) == (t : Int)) = (Qgc p t == t) := by
   rw [Bool.eq_iff_iff, beq_iff_eq, beq_iff_eq]; omega
  rw [this]; exact Ev.now _
 ·
  rw [Bool.eq_false_iff.mpr e, Bool.false_and]; exact Ev.now _
theorem Qgz (p : List Nat) (s : Int) (h : p.length ≤ 10) : Qdo.f (toI p) s = some (inB s 0 ((2 ^ p.length - 1 : Nat) : Int)) := by
 unfold Qdo.f; rw [toI_len, Qhw (by omega), Qj6]; rfl
theorem Qlv {p : List Nat} (g : Good p) (s : Nat) (hs : s < 2 ^ p.length) : ∀ (d i : Nat), i + d = p.length →
  Ev (fun k => Qbu.l0 k (s : Int) (toI p) ((toI p).length : Int) (i : Int)) ((List.range' i d).all fun e => !(s.testBit e) || sd (less p e) s == 0)
 | 0, i, h => by
  refine Ev.step (fun _ => Qbu.l0.eq_2 ..) (Qbj (by rw [toI_len]; omega) (Ev.now _))
 | d + 1, i, h => by
  have := g.le
  have ih := Qlv g s hs d (i + 1) (by omega)
  refine Ev.step (fun _ => Qbu.l0.eq_2 ..) ?_
  refine Qh (by rw [toI_len]; omega) (Qh (by omega) (Qh (by rw [toI_len]; omega) (Qbv (Qfz (by omega)) ?_)))
  rw [Qe0, Qfk (g.lt63 _) (g.len63 hs), Qbz (by omega), List.range'_succ, List.all_cons]
  refine Qc7 (fun e => ?_) (fun e => ?_)
  ·
   rw [e, Bool.not_true, Bool.false_or]
   refine Qc7 (fun e => ?_) (fun e => ?_)
   ·
    have e' : sd (less p i) s = 0 := by omega
    rw [e', beq_self_eq_true, Bool.true_and]; exact ih
   ·
    have e' : (sd (less p i) s == 0) = false := by rw [beq_eq_false_iff_ne]; omega
    rw [e', Bool.false_and]; exact Ev.now _
  ·
   rw [Bool.eq_false_iff.mpr e, Bool.not_false, Bool.true_or, Bool.true_and]; exact ih
theorem Qhi {p : List Nat} (g : Good p) {s : Nat} (hs : s < 2 ^ p.length) : Ev (fun k => Qbu.f k (toI p) (s : Int)) (Qei p s) := Qlv g s hs p.length 0 (by omega)
theorem Qkc (l : List Int) (s : Int) : Ev (fun k => Qd3.f k l s) (idB l s) := by
 refine Ev.bind (Qe5 l) ?_
 unfold idB setB
 refine Qc7 (fun e => ?_) (fun e => ?_)
 ·
  obtain ⟨p, rfl, g⟩ := Qfr e
  rw [e, Bool.true_and, toI_len, Qfc]
  refine Qbv (Qgz p s g.le) (Qc7 (fun e => ?_) (fun e => ?_))
  ·
   have b := Qex.mp e
   have := Nat.two_pow_pos p.length
   obtain ⟨t, rfl⟩ : ∃ t : Nat, s = (t : Int) := ⟨s.toNat, by omega⟩
   rw [e, Bool.true_and, Int.toNat_natCast]
   exact Ev.bind (Qhi g (by omega)) (Ev.now _)
  ·
   rw [Bool.eq_false_iff.mpr e, Bool.false_and]; exact Ev.now _
 ·
  rw [Bool.eq_false_iff.mpr e, Bool.false_and, Bool.false_and]; exact Ev.now _
def Ql3 (p : List Nat) (a : List Nat) (i : Nat) : Nat := Qcn i (less p i) (fun m e => max m (a.getD e 0 + 1)) 0
def hs (p : List Nat) : Nat → List Nat
 | 0 => []
 | i + 1 => hs p i ++ [Ql3 p (hs p i) i]
theorem Qf3 (p : List Nat) : ∀ i, (hs p i).length = i
 | 0 => rfl
 | i + 1 => by simp [hs, Qf3 p i]
def ht (p : List Nat) : List Nat := hs p p.length
theorem Qf4 (p : List Nat) : (ht p).length = p.length := Qf3 p _
def hh (p : List Nat) (i : Nat) : Nat := (ht p).getD i 0
theorem Qlm (p : List Nat) : ∀ i e, (hs p i).getD e 0 ≤ e
 | 0, e => by simp [hs]
 | i + 1, e => by
  rw [hs]
  by_cases h : e < i
  ·
   have := Qlm p i e
   simpa [List.getD_eq_getElem?_getD, List.getElem?_append_left (by rw [Qf3]; exact h : e < (hs p i).length)] using this
  ·
   by_cases h2 : e = i
   ·
    subst h2
    have : (hs p e ++ [Ql3 p (hs p e) e]).getD e 0 = Ql3 p (hs p e) e := by
     rw [List.getD_eq_getElem?_getD, List.getElem?_append_right (by rw [Qf3]; exact Nat.le_refl _)]
     simp [Qf3]
    rw [this]
    refine Qea _ _ _ _ (· ≤ e) (Nat.zero_le _) (fun a x ha hx _ => ?_)
    have := Qlm p e x
    omega
   ·
    rw [List.getD_eq_getElem?_getD, List.getElem?_eq_none (by simp [Qf3]; omega)]
    exact Nat.zero_le _
theorem Qnv (p : List Nat) {i e : Nat} (h : e < i) : (hs p i).getD e 0 = (hs p (e + 1)).getD e 0 := by
 induction i with
 | zero => omega
 | succ i ih =>
  by_cases h2 : e = i
  ·
   subst h2; rfl
  ·
   rw [← ih (by omega), hs]
   simp [List.getD_eq_getElem?_getD, List.getElem?_append_left (by rw [Qf3]; omega : e < (hs p i).length)]
theorem hh_le (p : List Nat) (i : Nat) : hh p i ≤ i := Qlm p _ i
theorem hh_step (p : List Nat) {i : Nat} (h : i < p.length) : hh p i = Ql3 p (hs p i) i := by
 unfold hh ht; rw [Qnv p h, hs]
 rw [List.getD_eq_getElem?_getD, List.getElem?_append_right (by rw [Qf3]; exact Nat.le_refl _)]
 simp [Qf3]
theorem Qld (a : List Nat) (s : Nat) {e : Nat} : ∀ n, e < n → s.testBit e = true → a.getD e 0 + 1 ≤ Qcn n s (fun m e => max m (a.getD e 0 + 1)) 0
 | 0, h, _ => by omega
 | n + 1, h, hb => by
  rw [Qdq]
  by_cases h2 : e = n
  ·
   subst h2; rw [if_pos hb]; exact Nat.le_max_right _ _
  ·
   have := Qld a s n (by omega) hb
   split
   ·
    exact Nat.le_trans this (Nat.le_max_left _ _)
   ·
    exact this
theorem hh_lt {p : List Nat} (g : Good p) {i j : Nat} (h : (less p i).testBit j = true) : hh p j < hh p i := by
 have b := g.bit h
 rw [hh_step p b.2]
 have := Qld (hs p i) (less p i) i b.1 h
 have e : (hs p i).getD j 0 = hh p j := by unfold hh ht; rw [Qnv p b.1, Qnv p (by omega : j < p.length)]
 rw [e] at this
 exact this
theorem Qll {a b : List Nat} {e : Nat} (h : e < a.length) : (a ++ b).getD e 0 = a.getD e 0 := by
 simp [List.getD_eq_getElem?_getD, List.getElem?_append_left h]
theorem Qkh {a b : List Nat} {m : Nat} : (a ++ m :: b).getD a.length 0 = m := by
 simp [List.getD_eq_getElem?_getD]
theorem Qlz {a b : List Nat} {m x : Nat} : (a ++ m :: b).set a.length x = a ++ x :: b := by simp
theorem Qn3 (a b : Nat) : mx (a : Int) (b : Int) = ((max a b : Nat) : Int) := by unfold mx; split <;> omega
theorem Qh5 {p : List Nat} (g : Good p) (i : Nat) (hi : i < p.length) (a z : List Nat) (ha : a.length = i) (hz : i + 1 + z.length = p.length) (hb : ∀ e, a.getD e 0 ≤ e) (r : List Int) : ∀ (d q m : Nat), q + d = (Qcy (less p i)).length →
  m ≤ i → Ev (fun k => Qs.l0 k (toI (a ++ ((Qcy (less p i)).drop q).foldl (fun m e => max m (a.getD e 0 + 1)) m :: z)) (toI p) ((toI p).length : Int) ((i + 1 : Nat) : Int)) r →
  Ev (fun k => Qs.l1 k (toI (a ++ m :: z)) (i : Int) (toI p) ((toI p).length : Int) (i : Int) (toI (Qcy (less p i))) ((toI (Qcy (less p i))).length : Int) (q : Int)) r
 | 0, q, m, h, hm, c => by
  have := g.le
  refine Ev.step (fun _ => Qs.l1.eq_2 ..) (Qbj (by rw [toI_len]; omega) ?_)
  rw [Qbz (by omega)]
  rw [List.drop_of_length_le (by omega)] at c; exact c
 | d + 1, q, m, h, hm, c => by
  have gl := g.le
  have hq : q < (Qcy (less p i)).length := by omega
  have hmm := Qg9 hq
  have hbit := g.bit hmm.2
  have hl := Qf6 (less p i)
  have hx := hb (Qcy (less p i))[q]
  refine Ev.step (fun _ => Qs.l1.eq_2 ..) ?_
  rw [Qhu hq]
  refine Qh (by rw [toI_len]; omega) (Qh (by omega) (Qh (by rw [toI_len]; omega) (Qh (by omega) (Qh (by rw [toI_len]; simp; omega) (Qh (by omega) (Qh (by rw [toI_len]; simp; omega) ?_))))))
  have e1 : rd (toI (a ++ m :: z)) (i : Int) = (m : Int) := by rw [Qec, ← ha, Qkh]
  have e2 : rd (toI (a ++ m :: z)) (((Qcy (less p i))[q] : Nat) : Int) = ((a.getD (Qcy (less p i))[q] 0 : Nat) : Int) := by rw [Qec, Qll (by omega)]
  rw [e1, e2, Qbz (by omega), Qbz (by omega), Qn3, Int.toNat_natCast, Qiy]
  have e3 : ∀ x, (a ++ m :: z).set i x = a ++ x :: z := fun x => by rw [← ha]; exact Qlz
  rw [e3]
  refine Qh5 g i hi a z ha hz hb r d (q + 1) _ (by omega) (by omega) ?_
  rw [List.drop_eq_getElem_cons hq, List.foldl_cons] at c; exact c
theorem Qnw {p : List Nat} {i : Nat} (h : i < p.length) : hs p i ++ List.replicate (p.length - i) 0 = hs p i ++ 0 :: List.replicate (p.length - (i + 1)) 0 := by
 rw [show p.length - i = (p.length - (i + 1)) + 1 by omega, List.replicate_succ]
theorem Qo3 {p : List Nat} {i : Nat} : hs p i ++ Ql3 p (hs p i) i :: List.replicate (p.length - (i + 1)) 0 = hs p (i + 1) ++ List.replicate (p.length - (i + 1)) 0 := by
 rw [hs, List.append_assoc]; rfl
theorem Qir {p : List Nat} (g : Good p) : ∀ (d i : Nat), i + d = p.length → Ev (fun k => Qs.l0 k (toI (hs p i ++ List.replicate (p.length - i) 0)) (toI p) ((toI p).length : Int) (i : Int)) (toI (ht p))
 | 0, i, h => by
  refine Ev.step (fun _ => Qs.l0.eq_2 ..) (Qbj (by rw [toI_len]; omega) ?_)
  obtain rfl : i = p.length := by omega
  rw [Nat.sub_self, List.replicate_zero, List.append_nil]; exact Ev.now _
 | d + 1, i, h => by
  have gl := g.le
  refine Ev.step (fun _ => Qs.l0.eq_2 ..) (Qh (by rw [toI_len]; omega) (Qh (by omega) (Qh (by rw [toI_len]; omega) ?_)))
  rw [Qe0]
  refine Ev.bind (Qgi (g.lt63 _)) ?_
  rw [Qnw (by omega)]
  refine Qh5 g i (by omega) _ _ (Qf3 p i) (by rw [List.length_replicate]; omega) (Qlm p i) _ _ 0 0 (Nat.zero_add _) (Nat.zero_le _) ?_
  rw [List.drop_zero, Qfg _ _ (g.lt i (by omega)) (by omega)]
  have := Qir g d (i + 1) (by omega)
  rw [← Qo3] at this; exact this
theorem Qiq {p : List Nat} (g : Good p) : Ev (fun k => Qs.f k (toI p)) (toI (ht p)) := by
 have gl := g.le
 refine Qbv (n_eq _) (Qh (by omega) (Qh (by rw [toI_len]; omega) ?_))
 rw [toI_len, Int.toNat_natCast, show (0 : Int) = ((0 : Nat) : Int) from rfl, Qmj]
 have := Qir g p.length 0 (by omega)
 simpa [hs] using this
theorem Qqb (a b : Nat) : Qed.f (a : Int) (b : Int) = some ((max a b : Nat) : Int) := by
 unfold Qed.f; split <;> (refine congrArg some ?_; omega)
theorem Qg0 {p : List Nat} (g : Good p) (i : Nat) (hi : i < p.length) (a z : List Nat) (ha : a.length = i) (hz : i + 1 + z.length = p.length) (hb : ∀ e, a.getD e 0 ≤ e) (r : List Int) : ∀ (d e m : Nat), e + d = i →
  m ≤ i → Ev (fun k => Q7.l0 k (toI (a ++ (List.range' e d).foldl (fun m e => if (less p i).testBit e = true then max m (a.getD e 0 + 1) else m) m :: z)) (toI p) ((toI p).length : Int) ((i + 1 : Nat) : Int)) r →
  Ev (fun k => Q7.l1 k (toI (a ++ m :: z)) (i : Int) ((less p i : Nat) : Int) (e : Int) (toI p) ((toI p).length : Int) (i : Int)) r
 | 0, e, m, h, hm, c => by
  have := g.le
  refine Ev.step (fun _ => Q7.l1.eq_2 ..) (Qbj (by omega) ?_)
  rw [Qbz (by omega)]
  exact c
 | d + 1, e, m, h, hm, c => by
  have gl := g.le
  have hx := hb e
  have e1 : rd (toI (a ++ m :: z)) (i : Int) = (m : Int) := by rw [Qec, ← ha, Qkh]
  have e2 : rd (toI (a ++ m :: z)) (e : Int) = ((a.getD e 0 : Nat) : Int) := by rw [Qec, Qll (by omega)]
  rw [List.range'_succ, List.foldl_cons] at c
  refine Ev.step (fun _ => Q7.l1.eq_2 ..) (Qh (by omega) (Qbv (Qfz (by omega)) (Qc7 (fun ht => ?_) (fun ht => ?_))))
  ·
   refine Qh (by omega) (Qh (by rw [toI_len]; simp; omega) (Qh (by omega) (Qh (by rw [toI_len]; simp; omega) ?_)))
   rw [e1, e2, Qbz (by omega)]
   refine Qbv (Qqb _ _) ?_
   rw [Int.toNat_natCast, Qiy, Qbz (by omega)]
   have e3 : (a ++ m :: z).set i (max m (a.getD e 0 + 1)) = a ++ max m (a.getD e 0 + 1) :: z := by rw [← ha]; exact Qlz
   rw [e3]
   rw [if_pos ht] at c
   exact Qg0 g i hi a z ha hz hb r d (e + 1) _ (by omega) (by omega) c
  ·
   rw [Qbz (by omega)]
   rw [if_neg ht] at c
   exact Qg0 g i hi a z ha hz hb r d (e + 1) _ (by omega) (by omega) c
theorem Qix {p : List Nat} (g : Good p) : ∀ (d i : Nat), i + d = p.length → Ev (fun k => Q7.l0 k (toI (hs p i ++ List.replicate (p.length - i) 0)) (toI p) ((toI p).length : Int) (i : Int)) (toI (ht p))
 | 0, i, h => by
  refine Ev.step (fun _ => Q7.l0.eq_2 ..) (Qbj (by rw [toI_len]; omega) ?_)
  obtain rfl : i = p.length := by omega
  rw [Nat.sub_self, List.replicate_zero, List.append_nil]; exact Ev.now _
 | d + 1, i, h => by
  have gl := g.le
  refine Ev.step (fun _ => Q7.l0.eq_2 ..) (Qh (by rw [toI_len]; omega) (Qh (by omega) (Qh (by rw [toI_len]; omega) ?_)))
  rw [Qe0, Qnw (by omega)]
  refine Qg0 g i (by omega) _ _ (Qf3 p i) (by rw [List.length_replicate]; omega) (Qlm p i) _ i 0 0 (by omega) (Nat.zero_le _) ?_
  have := Qix g d (i + 1) (by omega)
  rw [← Qo3] at this
  rw [← List.range_eq_range']; exact this
theorem Qiw {p : List Nat} (g : Good p) : Ev (fun k => Q7.f k (toI p)) (toI (ht p)) := by
 have gl := g.le
 refine Qh (by omega) (Qh (by rw [toI_len]; omega) ?_)
 rw [toI_len, Int.toNat_natCast, show (0 : Int) = ((0 : Nat) : Int) from rfl, Qmj]
 have := Qix g p.length 0 (by omega)
 simpa [hs] using this
def covB (p : List Nat) (j i : Nat) : Bool := (less p i).testBit j && (List.range' (j + 1) (i - (j + 1))).all fun k => !((less p i).testBit k && (less p k).testBit j)
def Qez (p : List Nat) : List (List Int) := (List.range p.length).flatMap fun j => ((List.range p.length).filter fun i => covB p j i).map fun i => [((j : Nat) : Int), ((i : Nat) : Int)]
theorem Qlh (p : List Nat) (s a i : Nat) : ∀ n, (Qcn n s (fun o e => sd o (less p e)) a).testBit i = true ↔ (a.testBit i = true ∧ ∀ e, e < n → s.testBit e = true → (less p e).testBit i = false)
 | 0 => by simp [Qcn]
 | n + 1 => by
  rw [Qdq]
  have ih := Qlh p s a i n
  split
  ·
   rename_i hs
   rw [Qhc, Bool.and_eq_true, ih, Bool.not_eq_true']
   constructor
   ·
    rintro ⟨⟨h1, h2⟩, h3⟩
    refine ⟨h1, fun e he hb => ?_⟩
    by_cases c : e = n
    ·
     subst c; exact h3
    ·
     exact h2 e (by omega) hb
   ·
    rintro ⟨h1, h2⟩
    exact ⟨⟨h1, fun e he hb => h2 e (by omega) hb⟩, h2 n (by omega) hs⟩
  ·
   rename_i hs
   rw [ih]
   constructor
   ·
    rintro ⟨h1, h2⟩
    refine ⟨h1, fun e he hb => ?_⟩
    by_cases c : e = n
    ·
     subst c; exact absurd hb hs
    ·
     exact h2 e (by omega) hb
   ·
    rintro ⟨h1, h2⟩
    exact ⟨h1, fun e he hb => h2 e (by omega) hb⟩
def cov (p : List Nat) (i : Nat) : Nat := Qcn i (less p i) (fun o e => sd o (less p e)) (less p i)
theorem cov_bit {p : List Nat} (g : Good p) (i j : Nat) : (cov p i).testBit j = covB p j i := by
 unfold cov covB
 rw [Bool.eq_iff_iff, Qlh, Bool.and_eq_true, List.all_eq_true]
 constructor
 ·
  rintro ⟨h1, h2⟩
  refine ⟨h1, fun k hk => ?_⟩
  rw [List.mem_range'_1] at hk
  cases hb : (less p i).testBit k
  ·
   rfl
  ·
   rw [h2 k (by omega) hb]; rfl
 ·
  rintro ⟨h1, h2⟩
  refine ⟨h1, fun k hk hb => ?_⟩
  cases hc : (less p k).testBit j
  ·
   rfl
  ·
   have b := g.bit hc
   have := h2 k (by rw [List.mem_range'_1]; omega)
   rw [hb, hc] at this; cases this
theorem Qla {p : List Nat} (g : Good p) (s : Nat) (hs : s < 2 ^ p.length) : ∀ (d q a : Nat), q + d = (Qcy s).length → a < 2 ^ p.length →
  Ev (fun k => Qbw.l0 k (a : Int) (toI (Qcy s)) ((toI (Qcy s)).length : Int) (q : Int) (toI p)) (((((Qcy s).drop q).foldl (fun o e => sd o (less p e)) a : Nat)) : Int)
 | 0, q, a, h, ha => by
  refine Ev.step (fun _ => Qbw.l0.eq_2 ..) (Qbj (by rw [toI_len]; omega) ?_)
  rw [List.drop_of_length_le (by omega)]; exact Ev.now _
 | d + 1, q, a, h, ha => by
  have hq : q < (Qcy s).length := by omega
  have hm := Qg9 hq
  have hb := Qff hs hm.2
  have hl := Qf6 s
  refine Ev.step (fun _ => Qbw.l0.eq_2 ..) ?_
  rw [Qhu hq, toI_len, toI_len]
  refine Qh (by omega) (Qh (by omega) (Qh (by omega) (Qh (by omega) (Qh (by omega) ?_))))
  rw [Qe0, Qfk (g.len63 ha) (g.lt63 _), Qbz (by omega), List.drop_eq_getElem_cons hq, List.foldl_cons, ← toI_len]
  exact Qla g s hs d (q + 1) _ (by omega) (Qi6 _ ha)
theorem Qpl {p : List Nat} (g : Good p) {i : Nat} (hi : i < p.length) : Ev (fun k => Qbw.f k (toI p) (i : Int)) ((cov p i : Nat) : Int) := by
 refine Qh (by omega) (Qh (by rw [toI_len]; omega) ?_)
 rw [Qe0]
 refine Ev.bind (Qgi (g.lt63 i)) ?_
 have h := Qla g (less p i) (g.lt10 i) _ 0 (less p i) (Nat.zero_add _) (g.lt10 i)
 rw [List.drop_zero, Qfg _ _ (g.lt i hi) (by have := g.le; omega)] at h
 exact h
def Qdw (p : List Nat) (j i d : Nat) : List (List Int) := ((List.range' i d).filter fun i => covB p j i).map fun i => [((j : Nat) : Int), ((i : Nat) : Int)]
def Qep (p : List Nat) (j d : Nat) : List (List Int) := (List.range' j d).flatMap fun j => Qdw p j 0 p.length
theorem cov_lt {p : List Nat} (g : Good p) (i : Nat) : cov p i < 2 ^ 63 := g.len63 (Qea _ _ _ _ (· < 2 ^ p.length) (g.lt10 i) (fun a e ha _ _ => Qi6 _ ha))
theorem Qhd {p : List Nat} (g : Good p) (j : Nat) (hj : j < p.length) (r : List (List Int)) : ∀ (d i : Nat) (acc : List (List Int)), i + d = p.length → acc.length + d ≤ 1000 →
  Ev (fun k => Qbf.l0 k (acc ++ Qdw p j i d) (p.length : Int) ((j + 1 : Nat) : Int) (toI p)) r →
  Ev (fun k => Qbf.l1 k acc (j : Int) (p.length : Int) (j : Int) (p.length : Int) (i : Int) (toI p)) r
 | 0, i, acc, h, ha, c => by
  have gl := g.le
  refine Ev.step (fun _ => Qbf.l1.eq_2 ..) (Qbj (by omega) ?_)
  rw [Qbz (by omega)]
  simpa [Qdw] using c
 | d + 1, i, acc, h, ha, c => by
  have gl := g.le
  refine Ev.step (fun _ => Qbf.l1.eq_2 ..) (Qh (by omega) (Ev.bind (Qpl g (by omega)) (Qbv (Qnu (cov_lt g i) (by omega)) ?_)))
  rw [cov_bit g, Qbz (by omega)]
  refine Qc7 (fun e => ?_) (fun e => ?_)
  ·
   refine Qh (by omega) (Qhd g j hj r d (i + 1) _ (by omega) (by simp; omega) ?_)
   rw [List.append_assoc]
   have : Qdw p j i (d + 1) = [[(j : Int), (i : Int)]] ++ Qdw p j (i + 1) d := by simp [Qdw, List.range'_succ, e]
   rw [this] at c; exact c
  ·
   refine Qhd g j hj r d (i + 1) _ (by omega) (by omega) ?_
   have : Qdw p j i (d + 1) = Qdw p j (i + 1) d := by simp [Qdw, List.range'_succ, e]
   rw [this] at c; exact c
theorem Qih (p : List Nat) (j i d : Nat) : (Qdw p j i d).length ≤ d := by
 unfold Qdw
 rw [List.length_map]
 exact Nat.le_trans (List.length_filter_le _ _) (by simp)
theorem Qja {p : List Nat} (g : Good p) : ∀ (d j : Nat) (acc : List (List Int)), j + d = p.length → acc.length + 10 * d ≤ 100 →
  Ev (fun k => Qbf.l0 k acc (p.length : Int) (j : Int) (toI p)) (acc ++ Qep p j d)
 | 0, j, acc, h, ha => by
  refine Ev.step (fun _ => Qbf.l0.eq_2 ..) (Qbj (by omega) ?_)
  simpa [Qep] using Ev.now acc
 | d + 1, j, acc, h, ha => by
  have gl := g.le
  have := Qih p j 0 p.length
  refine Ev.step (fun _ => Qbf.l0.eq_2 ..) (Qh (by omega) (Qbv (n_eq _) ?_))
  rw [toI_len]
  refine Qhd g j (by omega) _ p.length 0 acc (by omega) (by omega) ?_
  have ih := Qja g d (j + 1) (acc ++ Qdw p j 0 p.length) (by omega) (by simp; omega)
  rw [List.append_assoc] at ih
  have e : Qep p j (d + 1) = Qdw p j 0 p.length ++ Qep p (j + 1) d := by simp [Qep, List.range'_succ]
  rw [e]; exact ih
theorem Qi3 (p : List Nat) : Qep p 0 p.length = Qez p := by unfold Qep Qez Qdw; rw [← List.range_eq_range']
theorem Qna {p : List Nat} (g : Good p) : Ev (fun k => Qbf.f k (toI p)) (Qez p) := by
 have gl := g.le
 refine Qbv (n_eq _) ?_
 rw [toI_len]
 have := Qja g p.length 0 [] (by omega) (by simp; omega)
 rw [List.nil_append, Qi3] at this; exact this
theorem Ql0 {p : List Nat} (g : Good p) (j i : Nat) (hj : j < p.length) (hi : i < p.length) : ∀ (d k : Nat), k + d = i → Ev (fun n => Qch.l0 n (j : Int) (i : Int) (k : Int) (toI p)) ((List.range' k d).all fun k => !((less p i).testBit k && (less p k).testBit j))
 | 0, k, h => by
  refine Ev.step (fun _ => Qch.l0.eq_2 ..) (Qbj (by omega) ?_)
  simpa using Ev.now true
 | d + 1, k, h => by
  have gl := g.le
  have ih := Ql0 g j i hj hi d (k + 1) (by omega)
  refine Ev.step (fun _ => Qch.l0.eq_2 ..) (Qh (by omega) (Qh (by omega) (Qh (by rw [toI_len]; omega) ?_)))
  rw [Qe0, Qbz (by omega), List.range'_succ, List.all_cons]
  refine Qbv (Qfz (by omega)) (Qc7 (fun e => ?_) (fun e => ?_))
  ·
   rw [e, Bool.true_and]
   refine Qh (by omega) (Qh (by rw [toI_len]; omega) ?_)
   rw [Qe0]
   refine Qbv (Qfz (by omega)) (Qc7 (fun e2 => ?_) (fun e2 => ?_))
   ·
    rw [e2]; exact Ev.now _
   ·
    rw [Bool.eq_false_iff.mpr e2, Bool.not_false, Bool.true_and]; exact ih
  ·
   rw [Bool.eq_false_iff.mpr e, Bool.false_and, Bool.not_false, Bool.true_and]; exact ih
theorem Qpu {p : List Nat} (g : Good p) {j i : Nat} (hj : j < p.length) (hi : i < p.length) : Ev (fun k => Qch.f k (toI p) (j : Int) (i : Int)) (covB p j i) := by
 have gl := g.le
 refine Qh (by omega) (Qh (by rw [toI_len]; omega) ?_)
 rw [Qe0]
 unfold covB
 refine Qbv (Qfz (by omega)) (Qc7 (fun e => ?_) (fun e => ?_))
 ·
  rw [e, Bool.true_and, Qbz (by omega)]
  have b := g.bit e
  by_cases hji : j + 1 ≤ i
  ·
   exact Ql0 g j i hj hi _ (j + 1) (by omega)
  ·
   omega
 ·
  rw [Bool.eq_false_iff.mpr e, Bool.false_and]; exact Ev.now _
theorem Qhy {p : List Nat} (g : Good p) (j : Nat) (hj : j < p.length) (r : List (List Int)) : ∀ (d i : Nat) (acc : List (List Int)), i + d = p.length → acc.length + d ≤ 1000 →
  Ev (fun k => Qbr.l0 k (acc ++ Qdw p j i d) (p.length : Int) ((j + 1 : Nat) : Int) (toI p)) r →
  Ev (fun k => Qbr.l1 k acc (j : Int) (p.length : Int) (j : Int) (p.length : Int) (i : Int) (toI p)) r
 | 0, i, acc, h, ha, c => by
  have gl := g.le
  refine Ev.step (fun _ => Qbr.l1.eq_2 ..) (Qbj (by omega) ?_)
  rw [Qbz (by omega)]
  simpa [Qdw] using c
 | d + 1, i, acc, h, ha, c => by
  have gl := g.le
  refine Ev.step (fun _ => Qbr.l1.eq_2 ..) (Qh (by omega) (Ev.bind (Qpu g hj (by omega)) ?_))
  rw [Qbz (by omega)]
  refine Qc7 (fun e => ?_) (fun e => ?_)
  ·
   refine Qh (by omega) (Qhy g j hj r d (i + 1) _ (by omega) (by simp; omega) ?_)
   rw [List.append_assoc]
   have : Qdw p j i (d + 1) = [[(j : Int), (i : Int)]] ++ Qdw p j (i + 1) d := by simp [Qdw, List.range'_succ, e]
   rw [this] at c; exact c
  ·
   refine Qhy g j hj r d (i + 1) _ (by omega) (by omega) ?_
   have : Qdw p j i (d + 1) = Qdw p j (i + 1) d := by simp [Qdw, List.range'_succ, e]
   rw [this] at c; exact c
theorem Qjz {p : List Nat} (g : Good p) : ∀ (d j : Nat) (acc : List (List Int)), j + d = p.length → acc.length + 10 * d ≤ 100 →
  Ev (fun k => Qbr.l0 k acc (p.length : Int) (j : Int) (toI p)) (acc ++ Qep p j d)
 | 0, j, acc, h, ha => by
  refine Ev.step (fun _ => Qbr.l0.eq_2 ..) (Qbj (by omega) ?_)
  simpa [Qep] using Ev.now acc
 | d + 1, j, acc, h, ha => by
  have gl := g.le
  have := Qih p j 0 p.length
  refine Ev.step (fun _ => Qbr.l0.eq_2 ..) (Qh (by omega) ?_)
  rw [toI_len]
  refine Qhy g j (by omega) _ p.length 0 acc (by omega) (by omega) ?_
  have ih := Qjz g d (j + 1) (acc ++ Qdw p j 0 p.length) (by omega) (by simp; omega)
  rw [List.append_assoc] at ih
  have e : Qep p j (d + 1) = Qdw p j 0 p.length ++ Qep p (j + 1) d := by simp [Qep, List.range'_succ]
  rw [e]; exact ih
theorem Qoi {p : List Nat} (g : Good p) : Ev (fun k => Qbr.f k (toI p)) (Qez p) := by
 have gl := g.le
 unfold Qbr.f
 rw [toI_len]
 have := Qjz g p.length 0 [] (by omega) (by simp; omega)
 rw [List.nil_append, Qi3] at this; exact this
theorem Qjp {p : List Nat} {c : List Int} (h : c ∈ Qez p) : ∃ j i : Nat, c = [((j : Nat) : Int), ((i : Nat) : Int)] ∧ j < p.length ∧ i < p.length ∧ covB p j i = true := by
 unfold Qez at h
 simp only [List.mem_flatMap, List.mem_range, List.mem_map, List.mem_filter] at h
 obtain ⟨j, hj, i, ⟨hi, hc⟩, rfl⟩ := h
 exact ⟨j, i, rfl, hj, hi, hc⟩
theorem Qmt {p : List Nat} (g : Good p) : (Qez p).length ≤ 100 := by
 have gl := g.le
 have : ∀ (d j : Nat), (Qep p j d).length ≤ 10 * d := by
  intro d
  induction d with
  | zero => intro j; simp [Qep]
  | succ d ih =>
   intro j
   have e : Qep p j (d + 1) = Qdw p j 0 p.length ++ Qep p (j + 1) d := by simp [Qep, List.range'_succ]
   rw [e, List.length_append]
   have := Qih p j 0 p.length
   have := ih (j + 1)
   omega
 rw [← Qi3]
 have := this p.length 0
 omega
def Qer (p : List Nat) : Bool := (Qez p).all fun c => rd (toI (ht p)) (rd c 1) == rd (toI (ht p)) (rd c 0) + 1
theorem Qkm {p : List Nat} (g : Good p) : ∀ (d q : Nat), q + d = (Qez p).length → Ev (fun k => Qca.l0 k (toI (ht p)) (Qez p) ((Qez p).length : Int) (q : Int)) (((Qez p).drop q).all fun c => rd (toI (ht p)) (rd c 1) == rd (toI (ht p)) (rd c 0) + 1)
 | 0, q, h => by
  refine Ev.step (fun _ => Qca.l0.eq_2 ..) (Qbj (by omega) ?_)
  rw [List.drop_of_length_le (by omega)]; exact Ev.now _
 | d + 1, q, h => by
  have gl := g.le
  have hp := Qmt g
  have hq : q < (Qez p).length := by omega
  have er : Qb2 (Qez p) (q : Int) = (Qez p)[q] := by simp [Qb2, List.getD_eq_getElem?_getD, hq]
  obtain ⟨j, i, e, hj, hi, hc⟩ := Qjp (List.getElem_mem hq)
  have e0 : rd (Qez p)[q] 0 = (j : Int) := by rw [e]; rfl
  have e1 : rd (Qez p)[q] 1 = (i : Int) := by rw [e]; rfl
  have el : (Qez p)[q].length = 2 := by rw [e]; rfl
  have b0 := hh_le p j
  refine Ev.step (fun _ => Qca.l0.eq_2 ..) (Qh (by omega) (Qh (by omega) (Qh (by omega) ?_)))
  have ih := Qkm g d (q + 1) (by omega)
  have hj' : rd (toI (ht p)) (j : Int) = ((hh p j : Nat) : Int) := Qec _ _
  rw [er, e0, e1, el, List.drop_eq_getElem_cons hq, List.all_cons, e0, e1, Qbz (by omega), toI_len, Qf4, hj', Qbz (by omega)]
  refine Qh (by omega) (Qh (by omega) (Qh (by omega) (Qh (by omega) (Qh (by omega) (Qh (by omega) (Qc7 (fun e => ?_) (fun e => ?_)))))))
  ·
   have e' : (rd (toI (ht p)) (i : Int) == ((hh p j : Nat) : Int) + 1) = true := by rw [beq_iff_eq, e]; rfl
   rw [e', Bool.true_and]; exact ih
  ·
   have e' : (rd (toI (ht p)) (i : Int) == ((hh p j : Nat) : Int) + 1) = false := by rw [beq_eq_false_iff_ne]; exact e
   rw [e', Bool.false_and]; exact Ev.now _
theorem Qij {p : List Nat} (g : Good p) : Ev (fun k => Qca.f k (toI p)) (Qer p) :=
 Ev.bind (Qiw g) (Ev.bind (Qoi g) (Qkm g _ 0 (Nat.zero_add _)))
def rgB (l : List Int) : Bool := Qf1 l && Qer (l.map Int.toNat)
theorem Qe6 (l : List Int) : Ev (fun k => Qc2.f k l) (rgB l) := by
 refine Ev.bind (Qe5 l) ?_
 unfold rgB
 refine Qc7 (fun e => ?_) (fun e => ?_)
 ·
  obtain ⟨p, rfl, g⟩ := Qfr e
  rw [e, Bool.true_and, Qfc]
  exact Ev.bind (Qij g) (Ev.now _)
 ·
  rw [Bool.eq_false_iff.mpr e, Bool.false_and]; exact Ev.now _
theorem Qor {p : List Nat} (g : Good p) : Qcl.ok (toI (ht p)) (Qez p) = true := by
 unfold Qcl.ok
 have := Qmt g
 rw [Bool.and_eq_true, decide_eq_true_eq, List.all_eq_true]
 refine ⟨by omega, fun c hc => ?_⟩
 obtain ⟨j, i, rfl, hj, hi, _⟩ := Qjp hc
 have e0 : rd [((j : Nat) : Int), ((i : Nat) : Int)] 0 = (j : Int) := rfl
 have e1 : rd [((j : Nat) : Int), ((i : Nat) : Int)] 1 = (i : Int) := rfl
 rw [e0, e1, toI_len, Qf4]
 simp only [Bool.and_eq_true, decide_eq_true_eq]
 exact ⟨⟨⟨⟨rfl, by omega⟩, by omega⟩, by omega⟩, by omega⟩
theorem Qny {p : List Nat} (g : Good p) : (!((Qez p).any (Qcl.p (toI (ht p))))) = Qer p := by
 unfold Qer
 rw [Bool.eq_iff_iff, Bool.not_eq_true', List.any_eq_false, List.all_eq_true]
 refine forall_congr' fun c => forall_congr' fun hc => ?_
 obtain ⟨j, i, rfl, hj, hi, _⟩ := Qjp hc
 have e0 : rd [((j : Nat) : Int), ((i : Nat) : Int)] 0 = (j : Int) := rfl
 have hj' : rd (toI (ht p)) (j : Int) = ((hh p j : Nat) : Int) := Qec _ _
 have b0 := hh_le p j
 have gl := g.le
 unfold Qcl.p
 rw [e0, hj', Qbz (by omega), Int.natCast_succ, bne_iff_ne, ne_eq, Classical.not_not, beq_iff_eq]
theorem Qol (l : List Int) : Ev (fun k => Qcl.f k l) (rgB l, Qf1 l) := by
 refine Ev.bind (Qi2 l) ?_
 unfold rgB
 refine Qc7 (fun e => ?_) (fun e => ?_)
 ·
  obtain ⟨p, rfl, g⟩ := Qfr e
  rw [e, Bool.true_and, Qfc]
  refine Ev.bind (Qiq g) (Ev.bind (Qna g) (Qh (Qor g) ?_))
  rw [Qny g]; exact Ev.now _
 ·
  rw [Bool.eq_false_iff.mpr e, Bool.false_and]; exact Ev.now _
theorem Qfl (l : List Int) : Ev (fun k => Qcp.f k l) (rgB l) := Ev.bind (Qol l) (Ev.now _)
theorem Qiu {l : List Int} (h : rgB l = true) : ∃ p, l = toI p ∧ Good p ∧ Qer p = true := by
 unfold rgB at h
 rw [Bool.and_eq_true] at h
 obtain ⟨p, rfl, g⟩ := Qfr h.1
 exact ⟨p, rfl, g, by rw [Qfc] at h; exact h.2⟩
theorem Qof {p : List Nat} (g : Good p) (h : Qer p = true) : rgB (toI p) = true := by
 unfold rgB; rw [Qh4 g, Qfc, h]; rfl
def tg (p : List Nat) (s e : Nat) : Nat := if Qei p (s ^^^ 2 ^ e) = true then s ^^^ 2 ^ e else s
theorem Qf0 {p : List Nat} {e : Nat} (h : e < p.length) : 2 ^ e < 2 ^ p.length := Nat.pow_lt_pow_right (by decide) h
theorem tg_lt {p : List Nat} {s e : Nat} (hs : s < 2 ^ p.length) (h : e < p.length) : tg p s e < 2 ^ p.length := by
 unfold tg; split
 ·
  exact Nat.xor_lt_two_pow hs (Qf0 h)
 ·
  exact hs
theorem Qhj {p : List Nat} {s e : Nat} (hs : IsId p s) (h : e < p.length) : IsId p (tg p s e) := by
 unfold tg; split
 ·
  rename_i h2; exact (Qe8 (Nat.xor_lt_two_pow hs.1 (Qf0 h))).mp h2
 ·
  exact hs
theorem Qm7 {p : List Nat} (g : Good p) {s e : Nat} (hs : s < 2 ^ p.length) (he : e < p.length) : Ev (fun k => Qcz.f k (toI p) (s : Int) (e : Int)) ((tg p s e : Nat) : Int) := by
 have gl := g.le
 have hx := Nat.xor_lt_two_pow hs (Qf0 he)
 refine Qh (by omega) ?_
 rw [Qfi (by omega), Qnk (g.len63 hs) (g.len63 (Qf0 he))]
 refine Ev.bind (Qhq g hx) ?_
 unfold tg
 rw [← Qmo hx]
 refine Qc7 (fun e => ?_) (fun e => ?_)
 ·
  rw [if_pos (by rw [beq_iff_eq]; omega)]; exact Ev.now _
 ·
  rw [if_neg (by rw [beq_iff_eq]; omega)]; exact Ev.now _
theorem tgAt_ev {p : List Nat} (g : Good p) {s e : Nat} (hs : s < 2 ^ p.length) (he : e < p.length) : Ev (fun k => Qey.f k (toI p) (s : Int) (e : Int)) ((tg p s e : Nat) : Int) := by
 have gl := g.le
 have hx := Nat.xor_lt_two_pow hs (Qf0 he)
 refine Qh (by omega) ?_
 rw [Qfi (by omega), Qnk (g.len63 hs) (g.len63 (Qf0 he))]
 refine Ev.bind (Qhi g hx) ?_
 unfold tg
 refine Qc7 (fun e => ?_) (fun e => ?_)
 ·
  rw [if_pos e]; exact Ev.now _
 ·
  rw [if_neg e]; exact Ev.now _
theorem Ql4 {p : List Nat} (g : Good p) (w : List Nat) (hw : ∀ e ∈ w, e < p.length) (hl : w.length ≤ 100000) : ∀ (d q s : Nat), q + d = w.length → s < 2 ^ p.length →
  Ev (fun k => Qby.l0 k (s : Int) (toI w) ((toI w).length : Int) (q : Int) (toI p)) ((((w.drop q).foldl (tg p) s : Nat)) : Int)
 | 0, q, s, h, hs => by
  refine Ev.step (fun _ => Qby.l0.eq_2 ..) (Qbj (by rw [toI_len]; omega) ?_)
  rw [List.drop_of_length_le (by omega)]; exact Ev.now _
 | d + 1, q, s, h, hs => by
  have hq : q < w.length := by omega
  have he := hw _ (List.getElem_mem hq)
  have er : rd (toI w) (q : Int) = ((w[q] : Nat) : Int) := by rw [Qec]; simp [List.getD_eq_getElem?_getD, hq]
  refine Ev.step (fun _ => Qby.l0.eq_2 ..) (Qh (by rw [toI_len]; omega) (Qh (by omega) (Qh (by rw [toI_len]; omega) ?_)))
  rw [er, List.drop_eq_getElem_cons hq, List.foldl_cons, Qbz (by omega)]
  exact Ev.bind (Qm7 g hs he) (Ql4 g w hw hl d (q + 1) _ (by omega) (tg_lt hs he))
theorem Qpw {p : List Nat} (g : Good p) (w : List Nat) (hw : ∀ e ∈ w, e < p.length) (hl : w.length ≤ 100000) {s : Nat} (hs : s < 2 ^ p.length) : Ev (fun k => Qby.f k (toI p) (s : Int) (toI w)) (((w.foldl (tg p) s : Nat)) : Int) := by
 have := Ql4 g w hw hl w.length 0 s (by omega) hs
 rwa [List.drop_zero] at this
theorem Qpi (s e i : Nat) : (s ^^^ 2 ^ e).testBit i = (s.testBit i ^^ decide (e = i)) := by rw [Nat.testBit_xor, Nat.testBit_two_pow]
theorem Qfx {s e i : Nat} (h : e ≠ i) : (s ^^^ 2 ^ e).testBit i = s.testBit i := by rw [Qpi]; simp [h]
theorem Qj2 (s e : Nat) : (s ^^^ 2 ^ e).testBit e = !s.testBit e := by rw [Qpi]; simp
def Can (p : List Nat) (s e : Nat) : Prop := (s.testBit e = true → ∀ f, s.testBit f = true → (less p f).testBit e = false) ∧ (s.testBit e = false → ∀ f, (less p e).testBit f = true → s.testBit f = true)
theorem Qin {p : List Nat} (g : Good p) {s e : Nat} (hs : IsId p s) (he : e < p.length) : Qei p (s ^^^ 2 ^ e) = true ↔ Can p s e := by
 rw [Qe8 (Nat.xor_lt_two_pow hs.1 (Qf0 he))]
 constructor
 ·
  rintro ⟨_, h⟩
  refine ⟨fun h1 f hf => ?_, fun h1 f hf => ?_⟩
  ·
   apply Bool.eq_false_iff.mpr
   intro hc
   have b := g.bit hc
   have := h f (by rw [Qfx (by omega)]; exact hf) e hc
   rw [Qj2, h1] at this; cases this
  ·
   have b := g.bit hf
   have := h e (by rw [Qj2, h1]; rfl) f hf
   rwa [Qfx (by omega)] at this
 ·
  rintro ⟨h1, h2⟩
  refine ⟨Nat.xor_lt_two_pow hs.1 (Qf0 he), fun f hf i hi => ?_⟩
  have b := g.bit hi
  by_cases c : e = f
  ·
   subst c
   rw [Qj2, Bool.not_eq_true'] at hf
   rw [Qfx (by omega)]
   exact h2 hf i hi
  ·
   rw [Qfx c] at hf
   have hsi := hs.2 f hf i hi
   by_cases c2 : e = i
   ·
    subst c2
    rw [h1 hsi f hf] at hi; cases hi
   ·
    rw [Qfx c2]; exact hsi
theorem tg_ne {p : List Nat} {s e i : Nat} (h : e ≠ i) : (tg p s e).testBit i = s.testBit i := by
 unfold tg; split
 ·
  exact Qfx h
 ·
  rfl
theorem tg_eq {p : List Nat} (g : Good p) {s e : Nat} (hs : IsId p s) (he : e < p.length) : (tg p s e).testBit e = true ↔ (s.testBit e = true ∧ ∃ f, s.testBit f = true ∧ (less p f).testBit e = true) ∨ (s.testBit e = false ∧ ∀ f, (less p e).testBit f = true → s.testBit f = true) := by
 have hc := Qin g hs he
 unfold tg
 cases hb : s.testBit e
 ·
  by_cases c : Qei p (s ^^^ 2 ^ e) = true
  ·
   rw [if_pos c, Qj2, hb]
   exact ⟨fun _ => .inr ⟨rfl, (hc.mp c).2 hb⟩, fun _ => rfl⟩
  ·
   rw [if_neg c, hb]
   refine ⟨fun h => (by cases h), fun h => ?_⟩
   rcases h with h | h
   ·
    cases h.1
   ·
    exact absurd (hc.mpr ⟨fun h1 => (by rw [hb] at h1; cases h1), fun _ => h.2⟩) c
 ·
  by_cases c : Qei p (s ^^^ 2 ^ e) = true
  ·
   rw [if_pos c, Qj2, hb]
   refine ⟨fun h => (by cases h), fun h => ?_⟩
   rcases h with ⟨_, f, hf, hl⟩ | h
   ·
    rw [(hc.mp c).1 hb f hf] at hl; cases hl
   ·
    cases h.1
  ·
   rw [if_neg c, hb]
   refine ⟨fun _ => .inl ⟨rfl, ?_⟩, fun _ => rfl⟩
   apply Classical.byContradiction
   intro hn
   refine c (hc.mpr ⟨fun _ f hf => ?_, fun h => by rw [hb] at h; cases h⟩)
   apply Bool.eq_false_iff.mpr
   intro hl
   exact hn ⟨f, hf, hl⟩
def bot (p : List Nat) (u : Nat) : Nat := Qcn p.length u (fun o e => if less p e &&& u = 0 then o ||| 2 ^ e else o) 0
theorem Qkr {a b : Nat} : a &&& b = 0 ↔ ∀ i, a.testBit i = true → b.testBit i = false := by
 constructor
 ·
  intro h i hi
  have : (a &&& b).testBit i = false := by rw [h, Nat.zero_testBit]
  rw [Nat.testBit_and, hi, Bool.true_and] at this; exact this
 ·
  intro h
  apply Nat.eq_of_testBit_eq
  intro i
  rw [Nat.testBit_and, Nat.zero_testBit]
  cases ha : a.testBit i
  ·
   rfl
  ·
   rw [h i ha]; rfl
theorem Qif (c : Nat → Prop) [DecidablePred c] (u a i : Nat) : ∀ n, (Qcn n u (fun o e => if c e then o ||| 2 ^ e else o) a).testBit i = true ↔ (a.testBit i = true ∨ (i < n ∧ u.testBit i = true ∧ c i))
 | 0 => by simp [Qcn]
 | n + 1 => by
  rw [Qdq]
  have ih := Qif c u a i n
  by_cases hu : u.testBit n = true
  ·
   rw [if_pos hu]
   by_cases hc : c n
   ·
    rw [if_pos hc, Nat.testBit_or, Bool.or_eq_true, ih, Nat.testBit_two_pow, decide_eq_true_eq]
    constructor
    ·
     rintro ((h | ⟨h1, h2⟩) | h)
     ·
      exact .inl h
     ·
      exact .inr ⟨by omega, h2⟩
     ·
      subst h; exact .inr ⟨by omega, hu, hc⟩
    ·
     rintro (h | ⟨h1, h2⟩)
     ·
      exact .inl (.inl h)
     ·
      by_cases e : n = i
      ·
       exact .inr e
      ·
       exact .inl (.inr ⟨by omega, h2⟩)
   ·
    rw [if_neg hc, ih]
    refine or_congr_right ⟨fun h => ⟨by omega, h.2⟩, fun h => ⟨?_, h.2⟩⟩
    have : i ≠ n := fun e => by subst e; exact hc h.2.2
    omega
  ·
   rw [if_neg hu, ih]
   refine or_congr_right ⟨fun h => ⟨by omega, h.2⟩, fun h => ⟨?_, h.2⟩⟩
   have : i ≠ n := fun e => by subst e; exact hu h.2.1
   omega
theorem bot_bit {p : List Nat} {u : Nat} (hu : u < 2 ^ p.length) (i : Nat) : (bot p u).testBit i = true ↔ u.testBit i = true ∧ ∀ j, (less p i).testBit j = true → u.testBit j = false := by
 unfold bot
 rw [Qif (fun e => less p e &&& u = 0), Nat.zero_testBit]
 constructor
 ·
  rintro (h | ⟨h1, h2, h3⟩)
  ·
   cases h
  ·
   exact ⟨h2, Qkr.mp h3⟩
 ·
  rintro ⟨h1, h2⟩
  exact .inr ⟨Qff hu h1, h1, Qkr.mpr h2⟩
theorem put_lt {n : Nat} (c : Nat → Prop) [DecidablePred c] (u : Nat) : Qcn n u (fun o e => if c e then o ||| 2 ^ e else o) 0 < 2 ^ n :=
 Qea _ _ _ _ (· < 2 ^ n) (Nat.two_pow_pos _) (fun a e ha he _ => by
  split
  ·
   exact Nat.or_lt_two_pow ha (Nat.pow_lt_pow_right (by decide) he)
  ·
   exact ha)
theorem Qnl {p : List Nat} (u : Nat) : bot p u < 2 ^ p.length := put_lt _ u
def row (p : List Nat) (s : Nat) : Nat := Qgc p (bot p (sd (full p) s))
theorem co_lt {p : List Nat} (s : Nat) : sd (full p) s < 2 ^ p.length := Qi6 s (Qio p)
theorem Qji {p : List Nat} {s i : Nat} : (sd (full p) s).testBit i = true ↔ i < p.length ∧ s.testBit i = false := by
 rw [Qhc, Qku, Bool.and_eq_true, decide_eq_true_eq, Bool.not_eq_true']
theorem row_lt {p : List Nat} (g : Good p) (s : Nat) : row p s < 2 ^ p.length := close_lt g (Qnl _)
theorem Qhm {p : List Nat} (g : Good p) {s : Nat} (hs : IsId p s) (i : Nat) : (row p s).testBit i = true ↔ ∃ e, e < p.length ∧ s.testBit e = false ∧ (∀ j, (less p e).testBit j = true → s.testBit j = true) ∧ (e = i ∨ (less p e).testBit i = true) := by
 unfold row
 rw [Qjh (Qnl _)]
 have hb : ∀ e, (bot p (sd (full p) s)).testBit e = true ↔ e < p.length ∧ s.testBit e = false ∧ (∀ j, (less p e).testBit j = true → s.testBit j = true) := by
  intro e
  rw [bot_bit (co_lt s), Qji, and_assoc]
  refine and_congr_right fun h1 => and_congr_right fun h2 => forall_congr' fun j => forall_congr' fun hj => ?_
  have b := g.bit hj
  rw [← Bool.not_eq_true, Qji, not_and, Bool.not_eq_false]
  exact ⟨fun h => h (by omega), fun h _ => h⟩
 constructor
 ·
  rintro (h | ⟨e, h, hl⟩)
  ·
   have := (hb i).mp h
   exact ⟨i, this.1, this.2.1, this.2.2, .inl rfl⟩
  ·
   have := (hb e).mp h
   exact ⟨e, this.1, this.2.1, this.2.2, .inr hl⟩
 ·
  rintro ⟨e, h1, h2, h3, h4⟩
  rcases h4 with h4 | h4
  ·
   subst h4; exact .inl ((hb e).mpr ⟨h1, h2, h3⟩)
  ·
   exact .inr ⟨e, (hb e).mpr ⟨h1, h2, h3⟩, h4⟩
theorem Qiv {p : List Nat} (g : Good p) {s : Nat} (hs : IsId p s) : IsId p (row p s) := by
 refine ⟨row_lt g s, fun e he i hi => ?_⟩
 rw [Qhm g hs] at he ⊢
 obtain ⟨f, h1, h2, h3, h4⟩ := he
 refine ⟨f, h1, h2, h3, .inr ?_⟩
 rcases h4 with h4 | h4
 ·
  rw [h4]; exact hi
 ·
  exact g.tr' h4 hi
structure Mid (p : List Nat) (s t : Nat) (P : Nat → Prop) (x : Nat) : Prop where
 id : IsId p x
 on : ∀ i, i < p.length → P i → x.testBit i = t.testBit i
 off : ∀ i, i < p.length → ¬ P i → x.testBit i = s.testBit i
theorem Mid.step {p : List Nat} {s t x i : Nat} {P Q : Nat → Prop} (I : Mid p s t P x) (hi : i < p.length) (hQ : ∀ k, k < p.length → (Q k ↔ P k ∨ k = i)) (h : (tg p x i).testBit i = t.testBit i) : Mid p s t Q (tg p x i) := by
 refine ⟨Qhj I.id hi, fun k hk hq => ?_, fun k hk hq => ?_⟩
 ·
  by_cases c : i = k
  ·
   subst c; exact h
  ·
   rw [tg_ne c]
   rcases (hQ k hk).mp hq with h | h
   ·
    exact I.on k hk h
   ·
    exact absurd h.symm c
 ·
  rw [tg_ne (fun c => hq ((hQ k hk).mpr (.inr c.symm)))]
  exact I.off k hk fun h => hq ((hQ k hk).mpr (.inl h))
theorem Mid.same {p : List Nat} {s t x : Nat} {P Q : Nat → Prop} (I : Mid p s t P x) (hQ : ∀ k, k < p.length → (Q k ↔ P k)) : Mid p s t Q x :=
 ⟨I.id, fun k hk h => I.on k hk ((hQ k hk).mp h), fun k hk h => I.off k hk fun h2 => h ((hQ k hk).mpr h2)⟩
theorem Mid.all {p : List Nat} {s t x : Nat} {P : Nat → Prop} (I : Mid p s t P x) (ht : t < 2 ^ p.length) (h : ∀ i, i < p.length → P i) : x = t := by
 apply Nat.eq_of_testBit_eq
 intro i
 by_cases hi : i < p.length
 ·
  exact I.on i hi (h i hi)
 ·
  have big : ∀ y, y < 2 ^ p.length → y.testBit i = false := fun y hy => Nat.testBit_lt_two_pow (Nat.lt_of_lt_of_le hy (Nat.pow_le_pow_right (by decide) (by omega)))
  rw [big x I.id.1, big t ht]
theorem Mid.none {p : List Nat} {s : Nat} (t : Nat) (hs : IsId p s) {P : Nat → Prop} (h : ∀ i, i < p.length → ¬ P i) : Mid p s t P s :=
 ⟨hs, fun i hi hp => absurd hp (h i hi), fun _ _ _ => rfl⟩
theorem Mid.row {p : List Nat} (g : Good p) {s x i : Nat} {P Q : Nat → Prop} (hs : IsId p s) (I : Mid p s (row p s) P x) (hi : i < p.length) (hP : ¬ P i) (up : ∀ k, (less p k).testBit i = true → P k)
  (dn : ∀ j, (less p i).testBit j = true → ¬ P j) (hQ : ∀ k, k < p.length → (Q k ↔ P k ∨ k = i)) : Mid p s (M.row p s) Q (tg p x i) := by
 refine I.step hi hQ ?_
 have xi := I.off i hi hP
 rw [Bool.eq_iff_iff, tg_eq g I.id hi, xi]
 cases hb : s.testBit i
 ·
  constructor
  ·
   rintro (h | ⟨_, h⟩)
   ·
    cases h.1
   ·
    rw [Qhm g hs]
    refine ⟨i, hi, hb, fun j hj => ?_, .inl rfl⟩
    have b := g.bit hj
    rw [← I.off j (by omega) (dn j hj)]; exact h j hj
  ·
   intro h
   rw [Qhm g hs] at h
   obtain ⟨e, h1, h2, h3, h4⟩ := h
   refine .inr ⟨rfl, fun f hf => ?_⟩
   have b := g.bit hf
   rw [I.off f (by omega) (dn f hf)]
   rcases h4 with h4 | h4
   ·
    rw [h4] at h3; exact h3 f hf
   ·
    have := h3 i h4
    rw [hb] at this; cases this
 ·
  constructor
  ·
   rintro (⟨_, f, hf, hl⟩ | h)
   ·
    have b := g.bit hl
    have := I.on f b.2 (up f hl)
    rw [hf] at this
    exact (Qiv g hs).2 f this.symm i hl
   ·
    cases h.1
  ·
   intro h
   rw [Qhm g hs] at h
   obtain ⟨e, h1, h2, h3, h4⟩ := h
   rcases h4 with h4 | h4
   ·
    subst h4; rw [hb] at h2; cases h2
   ·
    refine .inl ⟨rfl, e, ?_, h4⟩
    rw [I.on e h1 (up e h4), Qhm g hs]
    exact ⟨e, h1, h2, h3, .inl rfl⟩
def top (p : List Nat) (s : Nat) : Nat := Qcn p.length s (fun o e => sd o (less p e)) s
theorem Qkf (p : List Nat) (s a i : Nat) : ∀ n, (Qcn n s (fun o e => sd o (less p e)) a).testBit i = true ↔ (a.testBit i = true ∧ ∀ e, e < n → s.testBit e = true → (less p e).testBit i = false)
 | 0 => by simp [Qcn]
 | n + 1 => by
  rw [Qdq]
  have ih := Qkf p s a i n
  split
  ·
   rename_i hs
   rw [Qhc, Bool.and_eq_true, ih, Bool.not_eq_true']
   constructor
   ·
    rintro ⟨⟨h1, h2⟩, h3⟩
    refine ⟨h1, fun e he hb => ?_⟩
    by_cases c : e = n
    ·
     subst c; exact h3
    ·
     exact h2 e (by omega) hb
   ·
    rintro ⟨h1, h2⟩
    exact ⟨⟨h1, fun e he hb => h2 e (by omega) hb⟩, h2 n (by omega) hs⟩
  ·
   rename_i hs
   rw [ih]
   constructor
   ·
    rintro ⟨h1, h2⟩
    refine ⟨h1, fun e he hb => ?_⟩
    by_cases c : e = n
    ·
     subst c; exact absurd hb hs
    ·
     exact h2 e (by omega) hb
   ·
    rintro ⟨h1, h2⟩
    exact ⟨h1, fun e he hb => h2 e (by omega) hb⟩
theorem Qi0 {p : List Nat} {s : Nat} (hs : s < 2 ^ p.length) (i : Nat) : (top p s).testBit i = true ↔ s.testBit i = true ∧ ∀ e, s.testBit e = true → (less p e).testBit i = false := by
 unfold top
 rw [Qkf]
 exact and_congr_right fun _ => ⟨fun h e he => h e (Qff hs he) he, fun h e _ he => h e he⟩
theorem Qok {p : List Nat} {s : Nat} (hs : s < 2 ^ p.length) : top p s < 2 ^ p.length := Qea _ _ _ _ (· < 2 ^ p.length) hs (fun a e ha _ _ => Qi6 _ ha)
def back (p : List Nat) (s : Nat) : Nat := Qcn p.length (sd (full p) (top p s)) (fun o e => if less p e &&& top p s = 0 then o ||| 2 ^ e else o) 0
theorem Qox {p : List Nat} (s : Nat) : back p s < 2 ^ p.length := put_lt _ _
theorem Qhn {p : List Nat} (s : Nat) (i : Nat) : (back p s).testBit i = true ↔ i < p.length ∧ (top p s).testBit i = false ∧ ∀ j, (less p i).testBit j = true → (top p s).testBit j = false := by
 unfold back
 rw [Qif (fun e => less p e &&& top p s = 0), Nat.zero_testBit, Qji, Qkr]
 constructor
 ·
  rintro (h | ⟨_, ⟨h1, h2⟩, h3⟩)
  ·
   cases h
  ·
   exact ⟨h1, h2, h3⟩
 ·
  rintro ⟨h1, h2, h3⟩
  exact .inr ⟨h1, ⟨h1, h2⟩, h3⟩
theorem Mid.back {p : List Nat} (g : Good p) {s x i : Nat} {P Q : Nat → Prop} (hs : IsId p s) (I : Mid p s (back p s) P x) (hi : i < p.length) (hP : ¬ P i) (up : ∀ k, (less p k).testBit i = true → ¬ P k)
  (dn : ∀ j, (less p i).testBit j = true → P j) (hQ : ∀ k, k < p.length → (Q k ↔ P k ∨ k = i)) : Mid p s (M.back p s) Q (tg p x i) := by
 refine I.step hi hQ ?_
 have xi := I.off i hi hP
 rw [Bool.eq_iff_iff, tg_eq g I.id hi, xi, Qhn]
 cases hb : s.testBit i
 ·
  have ht : (top p s).testBit i = false := by
   apply Bool.eq_false_iff.mpr; intro h; rw [Qi0 hs.1, hb] at h; cases h.1
  constructor
  ·
   rintro (h | ⟨_, h⟩)
   ·
    cases h.1
   ·
    refine ⟨hi, ht, fun j hj => ?_⟩
    have b := g.bit hj
    have := h j hj
    rw [I.on j (by omega) (dn j hj), Qhn] at this
    exact this.2.1
  ·
   rintro ⟨_, _, h⟩
   refine .inr ⟨rfl, fun f hf => ?_⟩
   have b := g.bit hf
   rw [I.on f (by omega) (dn f hf), Qhn]
   exact ⟨by omega, h f hf, fun j hj => h j (g.tr' hf hj)⟩
 ·
  constructor
  ·
   rintro (⟨_, f, hf, hl⟩ | h)
   ·
    have b := g.bit hl
    rw [I.off f b.2 (up f hl)] at hf
    refine ⟨hi, ?_, fun j hj => ?_⟩
    ·
     apply Bool.eq_false_iff.mpr; intro h; rw [Qi0 hs.1] at h
     rw [h.2 f hf] at hl; cases hl
    ·
     apply Bool.eq_false_iff.mpr; intro h; rw [Qi0 hs.1] at h
     rw [h.2 i hb] at hj; cases hj
   ·
    cases h.1
  ·
   rintro ⟨_, h1, h2⟩
   refine .inl ⟨rfl, ?_⟩
   apply Classical.byContradiction
   intro hn
   apply Bool.eq_false_iff.mp h1
   rw [Qi0 hs.1]
   refine ⟨hb, fun e he => ?_⟩
   apply Bool.eq_false_iff.mpr
   intro hl
   have b := g.bit hl
   exact hn ⟨e, by rw [I.off e b.2 (up e hl)]; exact he, hl⟩
theorem Qp7 {p : List Nat} (g : Good p) {s : Nat} (hs : IsId p s) : (List.range p.length).foldl (tg p) s = back p s := by
 have : ∀ n, n ≤ p.length → Mid p s (back p s) (· < n) ((List.range n).foldl (tg p) s) := by
  intro n
  induction n with
  | zero => intro _; exact Mid.none _ hs (fun i _ h => by omega)
  | succ n ih =>
   intro hn
   rw [List.range_succ, List.foldl_append]
   refine (ih (by omega)).back g hs (by omega) (by omega) (fun k hk => ?_) (fun j hj => ?_) (fun k _ => by omega)
   ·
    have := g.bit hk; omega
   ·
    have := g.bit hj; omega
 exact (this p.length (Nat.le_refl _)).all (Qox s) (fun i hi => hi)
theorem Qjg {p : List Nat} (g : Good p) (u : Nat) (hu : u < 2 ^ p.length) : ∀ (d q a : Nat), q + d = (Qcy u).length → a < 2 ^ p.length →
  Ev (fun k => Qb0.l0 k (u : Int) (a : Int) (toI (Qcy u)) ((toI (Qcy u)).length : Int) (q : Int) (toI p)) (((((Qcy u).drop q).foldl (fun o e => if less p e &&& u = 0 then o ||| 2 ^ e else o) a : Nat)) : Int)
 | 0, q, a, h, ha => by
  refine Ev.step (fun _ => Qb0.l0.eq_2 ..) (Qbj (by rw [toI_len]; omega) ?_)
  rw [List.drop_of_length_le (by omega)]; exact Ev.now _
 | d + 1, q, a, h, ha => by
  have gl := g.le
  have hq : q < (Qcy u).length := by omega
  have hm := Qg9 hq
  have hb := Qff hu hm.2
  have hl := Qf6 u
  have h2 := Qf0 hb
  refine Ev.step (fun _ => Qb0.l0.eq_2 ..) ?_
  rw [Qhu hq]
  refine Qh (by rw [toI_len]; omega) (Qh (by omega) (Qh (by rw [toI_len]; omega) (Qh (by omega) (Qh (by rw [toI_len]; omega) ?_))))
  rw [Qe0, Qks (g.lt63 _) (g.len63 hu), Qbz (by omega), Qfi (by omega), Qgb (g.len63 ha) (g.len63 h2), List.drop_eq_getElem_cons hq, List.foldl_cons]
  refine Qc7 (fun e => ?_) (fun e => ?_)
  ·
   rw [if_pos (by omega)]
   exact Qjg g u hu d (q + 1) _ (by omega) (Nat.or_lt_two_pow ha h2)
  ·
   rw [if_neg (by omega)]
   exact Qjg g u hu d (q + 1) _ (by omega) ha
theorem Qpx {p : List Nat} (g : Good p) {u : Nat} (hu : u < 2 ^ p.length) : Ev (fun k => Qb0.f k (toI p) (u : Int)) ((bot p u : Nat) : Int) := by
 refine Ev.bind (Qgi (g.len63 hu)) ?_
 have h := Qjg g u hu _ 0 0 (Nat.zero_add _) (Nat.two_pow_pos _)
 rw [List.drop_zero, Qfg _ _ hu g.le] at h
 exact h
theorem row_ev {p : List Nat} (g : Good p) {s : Nat} (hs : s < 2 ^ p.length) : Ev (fun k => Qc3.f k (toI p) (s : Int)) ((row p s : Nat) : Int) := by
 refine Qbv (Qk8 g.le) ?_
 rw [Qfk (g.len63 (Qio p)) (g.len63 hs)]
 exact Ev.bind (Qpx g (co_lt s)) (Ev.bind (Qhq g (Qnl _)) (Ev.now _))
theorem Qjr {p : List Nat} (g : Good p) (u : Nat) (hu : u < 2 ^ p.length) : ∀ (d i a : Nat), i + d = p.length → a < 2 ^ p.length →
  Ev (fun k => Qcj.l0 k (u : Int) (a : Int) (toI p) ((toI p).length : Int) (i : Int)) (((List.range' i d).foldl (fun o e => if u.testBit e = true then o ||| less p e else o) a : Nat) : Int)
 | 0, i, a, h, ha => Ev.step (fun _ => Qcj.l0.eq_2 ..) (Qbj (by rw [toI_len]; omega) (Ev.now _))
 | d + 1, i, a, h, ha => by
  have gl := g.le
  refine Ev.step (fun _ => Qcj.l0.eq_2 ..) (Qh (by rw [toI_len]; omega) (Qh (by omega) (Qh (by rw [toI_len]; omega) (Qbv (Qfz (by omega)) ?_))))
  rw [Qe0, Qgb (g.len63 ha) (g.lt63 _), Qbz (by omega), List.range'_succ, List.foldl_cons]
  refine Qc7 (fun e => ?_) (fun e => ?_)
  ·
   rw [if_pos e]; exact Qjr g u hu d (i + 1) _ (by omega) (Nat.or_lt_two_pow ha (g.lt10 _))
  ·
   rw [if_neg e]; exact Qjr g u hu d (i + 1) _ (by omega) ha
theorem Qmu {p : List Nat} (g : Good p) {u : Nat} (hu : u < 2 ^ p.length) : Ev (fun k => Qcj.f k (toI p) (u : Int)) ((Qgc p u : Nat) : Int) := by
 have h := Qjr g u hu p.length 0 u (by omega) hu
 rw [← List.range_eq_range'] at h
 exact h
theorem Qk2 {p : List Nat} (g : Good p) (u : Nat) (hu : u < 2 ^ p.length) : ∀ (d i a : Nat), i + d = p.length → a < 2 ^ p.length →
  Ev (fun k => Qcd.l0 k (u : Int) (a : Int) (toI p) ((toI p).length : Int) (i : Int)) (((List.range' i d).foldl (fun o e => if u.testBit e = true then sd o (less p e) else o) a : Nat) : Int)
 | 0, i, a, h, ha => Ev.step (fun _ => Qcd.l0.eq_2 ..) (Qbj (by rw [toI_len]; omega) (Ev.now _))
 | d + 1, i, a, h, ha => by
  have gl := g.le
  refine Ev.step (fun _ => Qcd.l0.eq_2 ..) (Qh (by rw [toI_len]; omega) (Qh (by omega) (Qh (by rw [toI_len]; omega) (Qbv (Qfz (by omega)) ?_))))
  rw [Qe0, Qfk (g.len63 ha) (g.lt63 _), Qbz (by omega), List.range'_succ, List.foldl_cons]
  refine Qc7 (fun e => ?_) (fun e => ?_)
  ·
   rw [if_pos e]; exact Qk2 g u hu d (i + 1) _ (by omega) (Qi6 _ ha)
  ·
   rw [if_neg e]; exact Qk2 g u hu d (i + 1) _ (by omega) ha
theorem Qk1 {p : List Nat} (g : Good p) {u : Nat} (hu : u < 2 ^ p.length) : Ev (fun k => Qcd.f k (toI p) (u : Int)) ((top p u : Nat) : Int) := by
 have h := Qk2 g u hu p.length 0 u (by omega) hu
 rw [← List.range_eq_range'] at h
 exact h
theorem Qic {p : List Nat} (g : Good p) (u : Nat) (hu : u < 2 ^ p.length) : ∀ (d i a : Nat), i + d = p.length → a < 2 ^ p.length →
  Ev (fun k => Qco.l0 k (u : Int) (a : Int) (toI p) ((toI p).length : Int) (i : Int)) (((List.range' i d).foldl (fun o e => if (sd (full p) u).testBit e = true then (if less p e &&& u = 0 then o ||| 2 ^ e else o) else o) a : Nat) : Int)
 | 0, i, a, h, ha => Ev.step (fun _ => Qco.l0.eq_2 ..) (Qbj (by rw [toI_len]; omega) (Ev.now _))
 | d + 1, i, a, h, ha => by
  have gl := g.le
  have h2 := Qf0 (p := p) (e := i) (by omega)
  refine Ev.step (fun _ => Qco.l0.eq_2 ..) (Qh (by rw [toI_len]; omega) (Qh (by omega) (Qh (by rw [toI_len]; omega) (Qbv (Qfz (by omega)) ?_))))
  rw [Qe0, Qks (g.lt63 _) (g.len63 hu), Qbz (by omega), Qfi (by omega), Qgb (g.len63 ha) (g.len63 h2), List.range'_succ, List.foldl_cons]
  refine Qc7 (fun e => ?_) (fun e => ?_)
  ·
   rw [if_neg (fun h => by rw [Qji, e] at h; cases h.2)]; exact Qic g u hu d (i + 1) _ (by omega) ha
  ·
   rw [if_pos (by rw [Qji]; exact ⟨by omega, Bool.eq_false_iff.mpr e⟩)]
   refine Qc7 (fun e => ?_) (fun e => ?_)
   ·
    rw [if_pos (by omega)]; exact Qic g u hu d (i + 1) _ (by omega) (Nat.or_lt_two_pow ha h2)
   ·
    rw [if_neg (by omega)]; exact Qic g u hu d (i + 1) _ (by omega) ha
theorem Qql {p : List Nat} (g : Good p) {s : Nat} (hs : s < 2 ^ p.length) : Ev (fun k => Qco.f k (toI p) (s : Int)) ((back p s : Nat) : Int) := by
 refine Ev.bind (Qk1 g hs) ?_
 have h := Qic g (top p s) (Qok hs) p.length 0 0 (by omega) (Nat.two_pow_pos _)
 rw [← List.range_eq_range'] at h
 exact h
theorem Qkj {p : List Nat} (g : Good p) : ∀ (d i s : Nat), i + d = p.length → s < 2 ^ p.length →
  Ev (fun k => Qb4.l0 k (s : Int) (p.length : Int) (i : Int) (toI p)) (((List.range' i d).foldl (tg p) s : Nat) : Int)
 | 0, i, s, h, hs => Ev.step (fun _ => Qb4.l0.eq_2 ..) (Qbj (by omega) (Ev.now _))
 | d + 1, i, s, h, hs => by
  have gl := g.le
  refine Ev.step (fun _ => Qb4.l0.eq_2 ..) (Qh (by omega) (Ev.bind (Qm7 g hs (by omega)) ?_))
  rw [Qbz (by omega), List.range'_succ, List.foldl_cons]
  exact Qkj g d (i + 1) _ (by omega) (tg_lt hs (by omega))
theorem Qoq {p : List Nat} (g : Good p) {s : Nat} (hs : IsId p s) : Ev (fun k => Qb4.f k (toI p) (s : Int)) ((back p s : Nat) : Int) := by
 refine Qbv (n_eq _) ?_
 rw [toI_len, ← Qp7 g hs]
 have h := Qkj g p.length 0 s (by omega) hs.1
 rw [← List.range_eq_range'] at h
 exact h
def rvB (l : List Int) (s : Int) : Bool := idB l s && rgB l
theorem Qly {l : List Int} {s : Int} (h : rvB l s = true) : ∃ (p : List Nat) (t : Nat), l = toI p ∧ s = (t : Int) ∧ Good p ∧ IsId p t ∧ Qer p = true := by
 unfold rvB at h
 rw [Bool.and_eq_true] at h
 obtain ⟨p, t, rfl, rfl, g, ht⟩ := idB_of h.1
 obtain ⟨p', e, _, hr⟩ := Qiu h.2
 obtain rfl := Qmi e
 exact ⟨p, t, rfl, rfl, g, ht, hr⟩
theorem Qdr (l : List Int) (s : Int) : Ev (fun k => Qb6.f k l s) (rvB l s) := by
 refine Ev.bind (Qge l s) ?_
 unfold rvB
 refine Qc7 (fun e => ?_) (fun e => ?_)
 ·
  rw [e, Bool.true_and]; exact Ev.bind (Qfl l) (Ev.now _)
 ·
  rw [Bool.eq_false_iff.mpr e, Bool.false_and]; exact Ev.now _
theorem Qgp (l : List Int) (s : Int) : Ev (fun k => Qdi.f k l s) (rvB l s) := by
 refine Ev.bind (Qe6 l) ?_
 unfold rvB
 rw [Bool.and_comm]
 refine Qc7 (fun e => ?_) (fun e => ?_)
 ·
  obtain ⟨p, rfl, g, hr⟩ := Qiu e
  unfold idB setB
  rw [e, Bool.true_and, Qh4 g, Bool.true_and, toI_len, Qfc]
  refine Qbv (Qgz p s g.le) (Qc7 (fun e => ?_) (fun e => ?_))
  ·
   have b := Qex.mp e
   have := Nat.two_pow_pos p.length
   obtain ⟨t, rfl⟩ : ∃ t : Nat, s = (t : Int) := ⟨s.toNat, by omega⟩
   rw [e, Bool.true_and, Int.toNat_natCast]
   exact Ev.bind (Qhi g (by omega)) (Ev.now _)
  ·
   rw [Bool.eq_false_iff.mpr e, Bool.false_and]; exact Ev.now _
 ·
  rw [Bool.eq_false_iff.mpr e, Bool.false_and]; exact Ev.now _
def mask (p : List Nat) (r : Nat) : Nat → Nat
 | 0 => 0
 | i + 1 => if hh p i = r then mask p r i ||| 2 ^ i else mask p r i
theorem Qj7 (p : List Nat) (r : Nat) : ∀ i, mask p r i < 2 ^ i
 | 0 => by simp [mask]
 | i + 1 => by
  have := Qj7 p r i
  have h2 : 2 ^ i < 2 ^ (i + 1) := Nat.pow_lt_pow_right (by decide) (by omega)
  unfold mask
  split
  ·
   exact Nat.or_lt_two_pow (by omega) h2
  ·
   omega
theorem Qhs (p : List Nat) (r e : Nat) : ∀ i, (mask p r i).testBit e = (decide (e < i) && decide (hh p e = r))
 | 0 => by simp [mask]
 | i + 1 => by
  have ih := Qhs p r e i
  unfold mask
  split
  ·
   rename_i h
   rw [Nat.testBit_or, ih, Nat.testBit_two_pow]
   by_cases c : i = e
   ·
    subst c; simp [h]
   ·
    by_cases c2 : e < i
    ·
     simp [c, c2, show e < i + 1 by omega]
    ·
     simp [c, c2, show ¬ e < i + 1 by omega]
  ·
   rename_i h
   rw [ih]
   by_cases c : i = e
   ·
    subst c; simp [h]
   ·
    by_cases c2 : e < i
    ·
     simp [c2, show e < i + 1 by omega]
    ·
     simp [c2, show ¬ e < i + 1 by omega]
def mxs (p : List Nat) : Nat → Nat
 | 0 => 0
 | i + 1 => max (mxs p i) (hh p i + 1)
def hgh (p : List Nat) : Nat := mxs p p.length
theorem Qn4 (p : List Nat) : ∀ i, mxs p i ≤ i
 | 0 => Nat.le_refl _
 | i + 1 => by have := Qn4 p i; have := hh_le p i; unfold mxs; omega
theorem Qlt (p : List Nat) {e : Nat} : ∀ i, e < i → hh p e + 1 ≤ mxs p i
 | 0, h => by omega
 | i + 1, h => by
  unfold mxs
  by_cases c : e = i
  ·
   subst c; omega
  ·
   have := Qlt p i (e := e) (by omega); omega
theorem Qmr (p : List Nat) {r : Nat} : ∀ i, mxs p i ≤ r → mask p r i = 0
 | 0, _ => rfl
 | i + 1, h => by
  unfold mxs at h
  unfold mask
  rw [if_neg (by omega)]
  exact Qmr p i (by omega)
def rks (p : List Nat) (M i : Nat) : List Nat := (List.range M).map fun r => mask p r i
theorem Qhl (p : List Nat) (M i : Nat) : (rks p M i).length = M := by simp [rks]
theorem Qmd (p : List Nat) {M i r : Nat} (h : r < M) : (rks p M i).getD r 0 = mask p r i := by simp [rks, List.getD_eq_getElem?_getD, h]
theorem Qo9 (p : List Nat) {M i : Nat} : (rks p M i).set (hh p i) (mask p (hh p i) i ||| 2 ^ i) = rks p M (i + 1) := by
 apply List.ext_getElem (by simp [rks])
 intro r h1 h2
 rw [List.getElem_set]
 simp only [rks, List.getElem_map, List.getElem_range]
 by_cases c : hh p i = r
 ·
  rw [if_pos c, mask, if_pos c, c]
 ·
  rw [if_neg c, mask, if_neg c]
theorem rks_grow (p : List Nat) {M i : Nat} (h : mxs p i ≤ M) : toI (rks p M i) ++ [0] = toI (rks p (M + 1) i) := by
 unfold rks
 rw [List.range_succ, List.map_append, List.map_singleton, Qmr p i h, Qgf]; rfl
theorem ht_eq (p : List Nat) : ht p = (List.range p.length).map (hh p) := by
 apply List.ext_getElem (by simp [Qf4])
 intro i h1 h2
 rw [List.getElem_map, List.getElem_range]
 simp [hh, List.getD_eq_getElem?_getD, h1]
theorem Qnt (p : List Nat) : ∀ i, (List.range i).foldl (fun a e => max a (hh p e + 1)) 0 = mxs p i
 | 0 => rfl
 | i + 1 => by rw [List.range_succ, List.foldl_append, Qnt p i]; rfl
theorem fold_mx (l : List Nat) : ∀ a : Nat, (toI l).foldl (fun m x => mx m x) (a : Int) = ((l.foldl max a : Nat) : Int) := by
 induction l with
 | nil => intro a; rfl
 | cons x l ih => intro a; rw [List.foldl_cons, ← ih (max a x), ← Qn3]; rfl
theorem Qp8 (l : List Nat) : ∀ a : Nat, l.foldl max a + 1 = l.foldl (fun a x => max a (x + 1)) (a + 1) := by
 induction l with
 | nil => intro a; rfl
 | cons x l ih => intro a; rw [List.foldl_cons, List.foldl_cons, ih, show max (a + 1) (x + 1) = max a x + 1 by omega]
theorem max_ev {p : List Nat} (g : Good p) : Qcb.f (toI (ht p)) = some (((hgh p : Nat) : Int) - 1) := by
 have gl := g.le
 have gp := g.pos
 have e1 : hgh p = (ht p).foldl (fun a x => max a (x + 1)) 0 := by rw [ht_eq, List.foldl_map, Qnt]; rfl
 unfold Qcb.f
 rw [if_pos (by rw [toI_len, Qf4]; omega)]
 refine congrArg some ?_
 unfold Qcb.g
 rw [e1]
 cases hl : ht p with
 | nil => have := Qf4 p; rw [hl] at this; simp at this; omega
 | cons x t =>
  have e2 : rd (toI (x :: t)) 0 = (x : Int) := rfl
  have e3 : (toI (x :: t)).drop 1 = toI t := rfl
  rw [e2, e3, fold_mx, List.foldl_cons, show max 0 (x + 1) = x + 1 by omega, ← Qp8]
  omega
theorem Qjm {p : List Nat} (g : Good p) : ∀ (d i : Nat), i + d = p.length → Ev (fun k => Q6.l0 k (toI (rks p (hgh p) i)) (toI (ht p)) ((toI (ht p)).length : Int) (i : Int)) (toI (rks p (hgh p) p.length))
 | 0, i, h => by
  refine Ev.step (fun _ => Q6.l0.eq_2 ..) (Qbj (by rw [toI_len, Qf4]; omega) ?_)
  obtain rfl : i = p.length := by omega
  exact Ev.now _
 | d + 1, i, h => by
  have gl := g.le
  have hm := Qlt p (e := i) p.length (by omega)
  have hm' : hh p i < hgh p := hm
  have ei : rd (toI (ht p)) (i : Int) = ((hh p i : Nat) : Int) := Qec _ _
  refine Ev.step (fun _ => Q6.l0.eq_2 ..) (Qh (by rw [toI_len, Qf4]; omega) (Qh (by omega) (Qh (by rw [toI_len, Qf4]; omega) ?_)))
  rw [ei]
  refine Qh (by omega) (Qh (by rw [toI_len, Qhl]; omega) ?_)
  have h2 : 2 ^ i < 2 ^ 63 := Nat.pow_lt_pow_right (by decide) (by omega)
  have hml := Go.Proofs.YtkgngggppcmpfaaGreat.M.lt63 (Qj7 p (hh p i) i) (by omega)
  rw [Qec, Qmd p hm', Qfi (by omega), Qgb hml h2, Int.toNat_natCast, Qiy, Qo9, Qbz (by omega)]
  exact Qjm g d (i + 1) (by omega)
def Qg6 (p : List Nat) : List Nat := rks p (hgh p) p.length
theorem Qd4 {p : List Nat} (g : Good p) : 1 ≤ hgh p ∧ hgh p ≤ 10 := by
 have := Qn4 p p.length
 have := g.le
 have := g.pos
 have := Qlt p (e := 0) p.length (by omega)
 unfold hgh; omega
theorem Qf5 {p : List Nat} (g : Good p) : Ev (fun k => Q6.f k (toI p)) (toI (Qg6 p)) := by
 have gh := Qd4 g
 refine Ev.bind (Qiq g) (Qbv (max_ev g) ?_)
 rw [show ((hgh p : Nat) : Int) - 1 + 1 = ((hgh p : Nat) : Int) by omega, Qdg (by omega) (by omega), Int.toNat_natCast]
 refine Qh (by omega) (Qh (by omega) ?_)
 have := Qjm g p.length 0 (by omega)
 have e : List.replicate (hgh p) (0 : Int) = toI (rks p (hgh p) 0) := by
  rw [show (0 : Int) = ((0 : Nat) : Int) from rfl, Qmj]
  congr 1
  exact (List.eq_replicate_iff.mpr ⟨by simp [rks], by simp [rks, mask]⟩).symm
 rw [e]; exact this
theorem Qj1 {p : List Nat} (g : Good p) (i : Nat) (hi : i < p.length) (r : List Int) (c : Ev (fun k => Q9.l0 k (toI (rks p (mxs p (i + 1)) (i + 1))) (toI (ht p)) ((toI (ht p)).length : Int) ((i + 1 : Nat) : Int)) r) : ∀ (d M : Nat), hh p i + 1 ≤ M + d → mxs p i ≤ M → M ≤ mxs p (i + 1) →
  Ev (fun k => Q9.l1 k (toI (rks p M i)) (i : Int) ((hh p i : Nat) : Int) (toI (ht p)) ((toI (ht p)).length : Int) (i : Int)) r
 | d, M, h, h1, h2 => by
  have gl := g.le
  have hle := hh_le p i
  have hM := Qn4 p (i + 1)
  by_cases hc : M ≤ hh p i
  ·
   match d, h with
   | 0, h => omega
   | d + 1, h =>
    refine Ev.step (fun _ => Q9.l1.eq_2 ..) (Qh (by rw [toI_len, Qhl]; omega) (Qh (by rw [toI_len, Qhl]; omega) ?_))
    rw [rks_grow p h1]
    exact Qj1 g i hi r c d (M + 1) (by omega) (by omega) (by unfold mxs; omega)
  ·
   refine Ev.step (fun _ => Q9.l1.eq_2 ..) (Qbj (by rw [toI_len, Qhl]; omega) (Qh (by omega) (Qh (by rw [toI_len, Qhl]; omega) (Qh (by omega) ?_))))
   have h3 : 2 ^ i < 2 ^ 63 := Nat.pow_lt_pow_right (by decide) (by omega)
   have hml := Go.Proofs.YtkgngggppcmpfaaGreat.M.lt63 (Qj7 p (hh p i) i) (by omega)
   rw [Qec, Qmd p (by omega), Qfi (by omega), Qgb hml h3, Int.toNat_natCast, Qiy, Qo9, Qbz (by omega)]
   have e : M = mxs p (i + 1) := by
    have : mxs p (i + 1) = max (mxs p i) (hh p i + 1) := rfl
    omega
   rw [e]; exact c
theorem Qj0 {p : List Nat} (g : Good p) : ∀ (d i : Nat), i + d = p.length → Ev (fun k => Q9.l0 k (toI (rks p (mxs p i) i)) (toI (ht p)) ((toI (ht p)).length : Int) (i : Int)) (toI (Qg6 p))
 | 0, i, h => by
  refine Ev.step (fun _ => Q9.l0.eq_2 ..) (Qbj (by rw [toI_len, Qf4]; omega) ?_)
  obtain rfl : i = p.length := by omega
  exact Ev.now _
 | d + 1, i, h => by
  have gl := g.le
  have ei : rd (toI (ht p)) (i : Int) = ((hh p i : Nat) : Int) := Qec _ _
  refine Ev.step (fun _ => Q9.l0.eq_2 ..) (Qh (by rw [toI_len, Qf4]; omega) (Qh (by omega) (Qh (by rw [toI_len, Qf4]; omega) ?_)))
  rw [ei]
  exact Qj1 g i (by omega) _ (Qj0 g d (i + 1) (by omega)) (hh p i + 1) _ (by omega) (Nat.le_refl _) (by show mxs p i ≤ max _ _; omega)
theorem Qf9 {p : List Nat} (g : Good p) : Ev (fun k => Q9.f k (toI p)) (toI (Qg6 p)) :=
 Ev.bind (Qiw g) (Qj0 g p.length 0 (by omega))
theorem Qf8 (p : List Nat) : (Qg6 p).length = hgh p := Qhl p _ _
theorem Qm0 (p : List Nat) {r : Nat} (h : r < hgh p) : rd (toI (Qg6 p)) (r : Int) = ((mask p r p.length : Nat) : Int) := by rw [Qec]; exact congrArg _ (Qmd p h)
theorem Qgy {p : List Nat} (g : Good p) : Ev (fun k => Qcg.f k (toI p)) (((hgh p - 1 : Nat) : Int)) := by
 have := Qd4 g
 refine Ev.bind (Qf5 g) ?_
 rw [toI_len, Qf8, Qdg (by omega) (by omega), show ((hgh p : Nat) : Int) - 1 = ((hgh p - 1 : Nat) : Int) by omega]
 exact Ev.now _
def tgS (p : List Nat) (s m : Nat) : Nat := Qcn p.length m (tg p) s
theorem tgS_lt {p : List Nat} {s m : Nat} (hs : s < 2 ^ p.length) : tgS p s m < 2 ^ p.length := Qea _ _ _ _ (· < 2 ^ p.length) hs (fun a e ha he _ => tg_lt ha he)
theorem tgS_id {p : List Nat} {s m : Nat} (hs : IsId p s) : IsId p (tgS p s m) := Qea _ _ _ _ (IsId p) hs (fun a e ha he _ => Qhj ha he)
theorem Qme {p : List Nat} (g : Good p) (m : Nat) : ∀ (d i s : Nat), i + d = p.length → s < 2 ^ p.length →
  Ev (fun k => Qc5.l0 k (s : Int) (m : Int) (p.length : Int) (i : Int) (toI p)) ((((List.range' i d).foldl (fun s e => if m.testBit e = true then tg p s e else s) s : Nat)) : Int)
 | 0, i, s, h, hs => Ev.step (fun _ => Qc5.l0.eq_2 ..) (Qbj (by omega) (Ev.now _))
 | d + 1, i, s, h, hs => by
  have gl := g.le
  refine Ev.step (fun _ => Qc5.l0.eq_2 ..) (Qh (by omega) (Qbv (Qfz (by omega)) ?_))
  rw [List.range'_succ, List.foldl_cons, Qbz (by omega)]
  refine Qc7 (fun e => ?_) (fun e => ?_)
  ·
   rw [if_pos e]
   exact Ev.bind (tgAt_ev g hs (by omega)) (Qme g m d (i + 1) _ (by omega) (tg_lt hs (by omega)))
  ·
   rw [if_neg e]; exact Qme g m d (i + 1) s (by omega) hs
theorem rvAt_ev {p : List Nat} (g : Good p) (m : Nat) {s : Nat} (hs : s < 2 ^ p.length) : Ev (fun k => Qc5.f k (toI p) (s : Int) (m : Int)) (((tgS p s m : Nat)) : Int) := by
 unfold Qc5.f
 rw [toI_len]
 have := Qme g m p.length 0 s (by omega) hs
 rw [← List.range_eq_range'] at this; exact this
def tgR (p : List Nat) (s r : Nat) : Nat := tgS p s (mask p r p.length)
theorem Qiz {p : List Nat} (g : Good p) (w : List Nat) (hw : ∀ r ∈ w, r < hgh p) (hl : w.length ≤ 100000) : ∀ (d q s : Nat), q + d = w.length → s < 2 ^ p.length →
  Ev (fun k => Ql.l0 k (s : Int) (toI (Qg6 p)) (toI w) ((toI w).length : Int) (q : Int) (toI p)) ((((w.drop q).foldl (tgR p) s : Nat)) : Int)
 | 0, q, s, h, hs => by
  refine Ev.step (fun _ => Ql.l0.eq_2 ..) (Qbj (by rw [toI_len]; omega) ?_)
  rw [List.drop_of_length_le (by omega)]; exact Ev.now _
 | d + 1, q, s, h, hs => by
  have gl := g.le
  have hq : q < w.length := by omega
  have hr := hw _ (List.getElem_mem hq)
  have hmk := Qj7 p w[q] p.length
  have er : rd (toI w) (q : Int) = ((w[q] : Nat) : Int) := by rw [Qec]; simp [List.getD_eq_getElem?_getD, hq]
  refine Ev.step (fun _ => Ql.l0.eq_2 ..) (Qh (by rw [toI_len]; omega) (Qh (by omega) (Qh (by rw [toI_len]; omega) ?_)))
  rw [er]
  refine Qh (by omega) (Qh (by rw [toI_len, Qf8]; omega) ?_)
  rw [Qm0 p hr, List.drop_eq_getElem_cons hq, List.foldl_cons, Qbz (by omega)]
  refine Ev.bind (Qgi (g.len63 hmk)) ?_
  refine Ev.bind (Qpw g (Qcy (mask p w[q] p.length)) (fun e he => Qff hmk (Qh6.mp he).2) (by have := Qf6 (mask p w[q] p.length); omega) hs) ?_
  rw [Qfg _ _ hmk gl]
  exact Qiz g w hw hl d (q + 1) _ (by omega) (tgS_lt hs)
theorem Qfn {p : List Nat} (g : Good p) (w : List Nat) (hw : ∀ r ∈ w, r < hgh p) (hl : w.length ≤ 100000) {s : Nat} (hs : s < 2 ^ p.length) : Ev (fun k => Ql.f k (toI p) (s : Int) (toI w)) (((w.foldl (tgR p) s : Nat)) : Int) := by
 refine Ev.bind (Qf5 g) ?_
 have := Qiz g w hw hl w.length 0 s (by omega) hs
 rwa [List.drop_zero] at this
theorem Qm4 {p : List Nat} (g : Good p) (w : List Nat) (hw : ∀ r ∈ w, r < hgh p) (hl : w.length ≤ 100000) : ∀ (d q s : Nat), q + d = w.length → s < 2 ^ p.length →
  Ev (fun k => Qbt.l0 k (s : Int) (toI (Qg6 p)) (toI w) ((toI w).length : Int) (q : Int) (toI p)) ((((w.drop q).foldl (tgR p) s : Nat)) : Int)
 | 0, q, s, h, hs => by
  refine Ev.step (fun _ => Qbt.l0.eq_2 ..) (Qbj (by rw [toI_len]; omega) ?_)
  rw [List.drop_of_length_le (by omega)]; exact Ev.now _
 | d + 1, q, s, h, hs => by
  have gl := g.le
  have hq : q < w.length := by omega
  have hr := hw _ (List.getElem_mem hq)
  have er : rd (toI w) (q : Int) = ((w[q] : Nat) : Int) := by rw [Qec]; simp [List.getD_eq_getElem?_getD, hq]
  refine Ev.step (fun _ => Qbt.l0.eq_2 ..) (Qh (by rw [toI_len]; omega) (Qh (by omega) (Qh (by rw [toI_len]; omega) ?_)))
  rw [er]
  refine Qh (by omega) (Qh (by rw [toI_len, Qf8]; omega) ?_)
  rw [Qm0 p hr, List.drop_eq_getElem_cons hq, List.foldl_cons, Qbz (by omega)]
  exact Ev.bind (rvAt_ev g _ hs) (Qm4 g w hw hl d (q + 1) _ (by omega) (tgS_lt hs))
theorem Qib {p : List Nat} (g : Good p) (w : List Nat) (hw : ∀ r ∈ w, r < hgh p) (hl : w.length ≤ 100000) {s : Nat} (hs : s < 2 ^ p.length) : Ev (fun k => Qbt.f k (toI p) (s : Int) (toI w)) (((w.foldl (tgR p) s : Nat)) : Int) := by
 refine Ev.bind (Qf9 g) ?_
 have := Qm4 g w hw hl w.length 0 s (by omega) hs
 rwa [List.drop_zero] at this
theorem Qoy {p : List Nat} {i j : Nat} (h : covB p j i = false) (hb : (less p i).testBit j = true) : ∃ k, (less p i).testBit k = true ∧ (less p k).testBit j = true := by
 unfold covB at h
 rw [hb, Bool.true_and, List.all_eq_false] at h
 obtain ⟨k, _, hk⟩ := h
 rw [Bool.not_eq_true', Bool.not_eq_false, Bool.and_eq_true] at hk
 exact ⟨k, hk⟩
theorem Qnm {p : List Nat} (g : Good p) {s i j : Nat} (hs : IsId p s) (ht : IsId p (s ^^^ 2 ^ i)) (hij : i ≠ j) (c1 : covB p i j = false) (c2 : covB p j i = false) (h : Can p s j) : Can p (s ^^^ 2 ^ i) j := by
 refine ⟨fun h1 f hf => ?_, fun h1 f hf => ?_⟩
 ·
  rw [Qfx hij] at h1
  apply Bool.eq_false_iff.mpr
  intro hc
  by_cases c : i = f
  ·
   subst c
   obtain ⟨k, hk1, hk2⟩ := Qoy c2 hc
   have b := g.bit hk1
   have := ht.2 i hf k hk1
   rw [Qfx (by omega)] at this
   rw [h.1 h1 k this] at hk2; cases hk2
  ·
   rw [Qfx c] at hf
   rw [h.1 h1 f hf] at hc; cases hc
 ·
  rw [Qfx hij] at h1
  have hsf := h.2 h1 f hf
  by_cases c : i = f
  ·
   subst c
   obtain ⟨k, hk1, hk2⟩ := Qoy c1 hf
   have b := g.bit hk2
   have hk := h.2 h1 k hk1
   have hk' : (s ^^^ 2 ^ i).testBit k = true := by rw [Qfx (by omega)]; exact hk
   exact ht.2 k hk' i hk2
  ·
   rw [Qfx c]; exact hsf
theorem can_tg {p : List Nat} (g : Good p) {s i j : Nat} (hs : IsId p s) (hi : i < p.length) (hij : i ≠ j) (c1 : covB p i j = false) (c2 : covB p j i = false) : Can p (tg p s i) j ↔ Can p s j := by
 have ht := Qhj hs hi
 unfold tg at ht ⊢
 split
 ·
  rename_i h
  rw [if_pos h] at ht
  refine ⟨fun h2 => ?_, fun h2 => Qnm g hs ht hij c1 c2 h2⟩
  have e : s ^^^ 2 ^ i ^^^ 2 ^ i = s := by rw [Nat.xor_assoc, Nat.xor_self, Nat.xor_zero]
  have := Qnm (s := s ^^^ 2 ^ i) g ht (by rw [e]; exact hs) hij c1 c2 h2
  rwa [e] at this
 ·
  exact Iff.rfl
theorem tg_if {p : List Nat} (g : Good p) {s e : Nat} (hs : IsId p s) (he : e < p.length) (C : Prop) [Decidable C] (h : Can p s e ↔ C) : tg p s e = if C then s ^^^ 2 ^ e else s := by
 unfold tg
 by_cases c : C
 ·
  rw [if_pos c, if_pos ((Qin g hs he).mpr (h.mpr c))]
 ·
  rw [if_neg c, if_neg (fun hc => c (h.mp ((Qin g hs he).mp hc)))]
theorem tg_comm {p : List Nat} (g : Good p) {s i j : Nat} (hs : IsId p s) (hi : i < p.length) (hj : j < p.length) (c1 : covB p i j = false) (c2 : covB p j i = false) : tg p (tg p s i) j = tg p (tg p s j) i := by
 by_cases hij : i = j
 ·
  rw [hij]
 ·
  have e1 := tg_if g (Qhj hs hi) hj (Qei p (s ^^^ 2 ^ j) = true) ((can_tg g hs hi hij c1 c2).trans (Qin g hs hj).symm)
  have e2 := tg_if g (Qhj hs hj) hi (Qei p (s ^^^ 2 ^ i) = true) ((can_tg g hs hj (Ne.symm hij) c2 c1).trans (Qin g hs hi).symm)
  rw [e1, e2]
  unfold tg
  by_cases a : Qei p (s ^^^ 2 ^ i) = true <;> by_cases b : Qei p (s ^^^ 2 ^ j) = true
  ·
   rw [if_pos b, if_pos a, if_pos a, if_pos b, Nat.xor_assoc, Nat.xor_assoc, Nat.xor_comm (2 ^ i)]
  ·
   rw [if_neg b, if_pos a, if_pos a, if_neg b]
  ·
   rw [if_pos b, if_neg a, if_neg a, if_pos b]
  ·
   rw [if_neg b, if_neg a, if_neg a, if_neg b]
def Free (p : List Nat) (a b : Nat) : Prop := ∀ x y, a.testBit x = true → b.testBit y = true → covB p x y = false ∧ covB p y x = false
theorem Qjk {p : List Nat} (g : Good p) {b x : Nat} (hx : x < p.length) : ∀ (n : Nat), n ≤ p.length → ∀ (s : Nat), IsId p s → (∀ y, y < n → b.testBit y = true → covB p x y = false ∧ covB p y x = false) →
  tg p (Qcn n b (tg p) s) x = Qcn n b (tg p) (tg p s x)
 | 0, hn, s, hs, h => rfl
 | n + 1, hn, s, hs, h => by
  have ih := Qjk g hx n (by omega) s hs fun y hy hb => h y (by omega) hb
  rw [Qdq, Qdq]
  split
  ·
   rename_i hb
   have hi : IsId p (Qcn n b (tg p) s) := Qea _ _ _ _ (IsId p) hs (fun a e ha he _ => Qhj ha (by omega))
   have hc := h n (by omega) hb
   rw [tg_comm g hi (by omega) hx hc.2 hc.1, ih]
  ·
   exact ih
theorem Qli {p : List Nat} (g : Good p) {a b : Nat} (hab : ∀ x, a.testBit x = true → b.testBit x = false) (hf : Free p a b) : ∀ (n : Nat), n ≤ p.length → ∀ (s : Nat), IsId p s → Qcn n (a ||| b) (tg p) s = Qcn n b (tg p) (Qcn n a (tg p) s)
 | 0, hn, s, hs => rfl
 | n + 1, hn, s, hs => by
  have ih := Qli g hab hf n (by omega) s hs
  have hi : IsId p (Qcn n a (tg p) s) := Qea _ _ _ _ (IsId p) hs (fun a e ha he _ => Qhj ha (by omega))
  rw [Qdq, Qdq, Qdq, Nat.testBit_or, ih]
  by_cases ha : a.testBit n = true
  ·
   have hb := hab n ha
   rw [ha, hb, Bool.true_or, if_pos rfl, if_pos rfl, if_neg (by simp)]
   exact Qjk g (by omega) n (by omega) _ hi fun y hy hby => hf n y ha hby
  ·
   rw [Bool.eq_false_iff.mpr ha, Bool.false_or, if_neg (c := false = true) (by simp)]
theorem Qm5 {p : List Nat} (g : Good p) {a b s : Nat} (hab : ∀ x, a.testBit x = true → b.testBit x = false) (hf : Free p a b) (hs : IsId p s) : tgS p s (a ||| b) = tgS p (tgS p s a) b := Qli g hab hf _ (Nat.le_refl _) s hs
theorem Qlw {p : List Nat} (hr : Qer p = true) {i j : Nat} (hi : i < p.length) (hj : j < p.length) (h : covB p j i = true) : hh p i = hh p j + 1 := by
 unfold Qer at hr
 rw [List.all_eq_true] at hr
 have hm : [((j : Nat) : Int), ((i : Nat) : Int)] ∈ Qez p := by
  unfold Qez
  simp only [List.mem_flatMap, List.mem_range, List.mem_map, List.mem_filter]
  exact ⟨j, hj, i, ⟨hi, h⟩, rfl⟩
 have := hr _ hm
 have e0 : rd [((j : Nat) : Int), ((i : Nat) : Int)] 0 = (j : Int) := rfl
 have e1 : rd [((j : Nat) : Int), ((i : Nat) : Int)] 1 = (i : Int) := rfl
 have hj' : rd (toI (ht p)) (j : Int) = ((hh p j : Nat) : Int) := Qec _ _
 have hi' : rd (toI (ht p)) (i : Int) = ((hh p i : Nat) : Int) := Qec _ _
 rw [e0, e1, hi', hj', beq_iff_eq] at this
 omega
theorem l1Own_eq (l : List Int) (h : l.length < 17592186044416) : Qe1.f l = some l := by
 unfold Qe1.f; rw [Option.bind_some, if_pos (by simpa using h)]; rfl
def Qeh (H i d : Nat) : List Nat := (List.range' i d).flatMap fun i => (List.range' i (H + 1 - i)).reverse
def vac (H : Nat) : List Nat := Qeh H 0 (H + 1)
theorem Qfo (H i d : Nat) : Qeh H i (d + 1) = (List.range' i (H + 1 - i)).reverse ++ Qeh H (i + 1) d := by simp [Qeh, List.range'_succ]
theorem Qik (i d : Nat) : (List.range' i (d + 1)).reverse = (i + d) :: (List.range' i d).reverse := by rw [List.range'_1_concat]; simp
theorem Qkq (H : Nat) : ∀ d i, (Qeh H i d).length ≤ (H + 1) * d
 | 0, i => by simp [Qeh]
 | d + 1, i => by rw [Qfo, List.length_append, List.length_reverse, List.length_range', Nat.mul_succ]; have := Qkq H d (i + 1); omega
theorem Qg3 {H : Nat} {x : Nat} : ∀ {d i}, x ∈ Qeh H i d → x ≤ H
 | 0, i, h => by simp [Qeh] at h
 | d + 1, i, h => by
  rw [Qfo, List.mem_append, List.mem_reverse, List.mem_range'_1] at h
  rcases h with h | h
  ·
   omega
  ·
   exact Qg3 h
theorem Qgg {H : Nat} (h : H ≤ 10) : (vac H).length ≤ 121 := by
 have := Qkq H (H + 1) 0
 have : (H + 1) * (H + 1) ≤ 11 * 11 := Nat.mul_le_mul (by omega) (by omega)
 unfold vac; omega
theorem Qlq {H : Nat} (hH : H ≤ 10) (i : Nat) (hi : i ≤ H) (r : List Int) : ∀ (d : Nat) (acc : List Nat), i + d ≤ H + 1 → acc.length + d ≤ 1000 →
  Ev (fun k => Qba.l0 k (H : Int) (toI (acc ++ (List.range' i d).reverse)) ((H + 1 : Nat) : Int) ((i + 1 : Nat) : Int)) r →
  Ev (fun k => Qba.l1 k (H : Int) (toI acc) (i : Int) (((i + d : Nat) : Int) - 1) ((H + 1 : Nat) : Int) (i : Int)) r
 | 0, acc, h, ha, c => by
  refine Ev.step (fun _ => Qba.l1.eq_2 ..) (Qbj (by omega) ?_)
  rw [Qbz (by omega)]
  simpa using c
 | d + 1, acc, h, ha, c => by
  refine Ev.step (fun _ => Qba.l1.eq_2 ..) (Qh (by omega) (Qh (by rw [toI_len]; omega) ?_))
  rw [show ((i + (d + 1) : Nat) : Int) - 1 = ((i + d : Nat) : Int) by omega, Qdg (by omega) (by omega), ← Qgq, ← Qgf]
  refine Qlq hH i hi r d _ (by omega) (by simp; omega) ?_
  rw [Qik] at c
  rw [List.append_assoc]; exact c
theorem Qlp {H : Nat} (hH : H ≤ 10) : ∀ (d i : Nat) (acc : List Nat), i + d = H + 1 → acc.length + 11 * d ≤ 200 → Ev (fun k => Qba.l0 k (H : Int) (toI acc) ((H + 1 : Nat) : Int) (i : Int)) (toI (acc ++ Qeh H i d))
 | 0, i, acc, h, ha => by
  refine Ev.step (fun _ => Qba.l0.eq_2 ..) (Qbj (by omega) ?_)
  simpa [Qeh] using Ev.now (toI acc)
 | d + 1, i, acc, h, ha => by
  refine Ev.step (fun _ => Qba.l0.eq_2 ..) (Qh (by omega) ?_)
  have e : ((H : Nat) : Int) = ((i + (H + 1 - i) : Nat) : Int) - 1 := by omega
  have := Qlq hH i (by omega) (toI (acc ++ Qeh H i (d + 1))) (H + 1 - i) acc (by omega) (by omega) (by
   rw [Qfo, ← List.append_assoc]
   exact Qlp hH d (i + 1) _ (by omega) (by simp; omega))
  rw [← e] at this; exact this
theorem Qft {H : Nat} (hH : H ≤ 10) : Ev (fun k => Qba.f k (H : Int)) (toI (vac H)) := by
 unfold Qba.f
 rw [Qbz (by omega)]
 exact Qlp hH (H + 1) 0 [] (by omega) (by simp; omega)
theorem Ql2 {H : Nat} (hH : H ≤ 10) (i : Nat) (hi : i ≤ H) (r : List Int) : ∀ (d : Nat) (acc : List Nat), i + d ≤ H + 1 → acc.length + d ≤ 1000 →
  Ev (fun k => Qbi.l0 k (H : Int) (toI (acc ++ (List.range' i d).reverse)) ((i + 1 : Nat) : Int)) r →
  Ev (fun k => Qbi.l1 k (H : Int) (toI acc) (i : Int) (((i + d : Nat) : Int) - 1)) r
 | 0, acc, h, ha, c => by
  refine Ev.step (fun _ => Qbi.l1.eq_2 ..) (Qbj (by omega) ?_)
  rw [Qbz (by omega)]
  simpa using c
 | d + 1, acc, h, ha, c => by
  refine Ev.step (fun _ => Qbi.l1.eq_2 ..) (Qh (by omega) (Qh (by rw [toI_len]; omega) ?_))
  rw [show ((i + (d + 1) : Nat) : Int) - 1 = ((i + d : Nat) : Int) by omega, Qdg (by omega) (by omega), ← Qgq, ← Qgf]
  refine Ql2 hH i hi r d _ (by omega) (by simp; omega) ?_
  rw [Qik] at c
  rw [List.append_assoc]; exact c
theorem Ql1 {H : Nat} (hH : H ≤ 10) : ∀ (d i : Nat) (acc : List Nat), i + d = H + 1 → acc.length + 11 * d ≤ 200 → Ev (fun k => Qbi.l0 k (H : Int) (toI acc) (i : Int)) (toI (acc ++ Qeh H i d))
 | 0, i, acc, h, ha => by
  refine Ev.step (fun _ => Qbi.l0.eq_2 ..) (Qbj (by omega) ?_)
  simpa [Qeh] using Ev.now (toI acc)
 | d + 1, i, acc, h, ha => by
  refine Ev.step (fun _ => Qbi.l0.eq_2 ..) (Qh (by omega) ?_)
  have e : ((H : Nat) : Int) = ((i + (H + 1 - i) : Nat) : Int) - 1 := by omega
  have := Ql2 hH i (by omega) (toI (acc ++ Qeh H i (d + 1))) (H + 1 - i) acc (by omega) (by omega) (by
   rw [Qfo, ← List.append_assoc]
   exact Ql1 hH d (i + 1) _ (by omega) (by simp; omega))
  rw [← e] at this; exact this
theorem Qfu {p : List Nat} (g : Good p) : Ev (fun k => Qbi.f k (toI p)) (toI (vac (hgh p - 1))) := by
 have h := Qd4 g
 refine Ev.bind (Qf9 g) ?_
 rw [toI_len, Qf8, Qdg (by omega) (by omega), show ((hgh p : Nat) : Int) - 1 = ((hgh p - 1 : Nat) : Int) by omega]
 exact Ql1 (by omega) (hgh p - 1 + 1) 0 [] (by omega) (by simp; omega)
theorem Qh0 {p : List Nat} (g : Good p) : ∀ r ∈ vac (hgh p - 1), r < hgh p := fun r hr => by
 have := Qg3 hr
 have := Qd4 g
 omega
theorem dual_mem {H : Nat} {x : Nat} (h : x ∈ (vac H).map (H - ·)) : x ≤ H := by
 simp only [List.mem_map] at h
 obtain ⟨a, _, rfl⟩ := h
 omega
theorem Qnq (H i : Nat) : ∀ d, i + d ≤ H + 1 → ((List.range' i d).reverse.map (H - ·)) = List.range' (H + 1 - (i + d)) d
 | 0, _ => rfl
 | d + 1, h => by
  rw [Qik, List.map_cons, Qnq H i d (by omega), List.range'_succ]
  congr 1
  ·
   omega
  ·
   congr 1; omega
theorem Qkp {p : List Nat} (s : Nat) (h : Nat) (hh : h ≤ 10) (r : Int × Bool) : ∀ (d x : Nat) (acc : List Nat), x + d = h + 1 → acc.length + d ≤ 1000 →
  Ev (fun k => Q1.l0 k (s : Int) (toI (acc ++ List.range' x d)) ((h : Int) - 1) (toI p)) r →
  Ev (fun k => Q1.l1 k (s : Int) (toI acc) (h : Int) (x : Int) (toI p)) r
 | 0, x, acc, h1, ha, c => by
  refine Ev.step (fun _ => Q1.l1.eq_2 ..) (Qbj (by omega) ?_)
  rw [Qdg (by omega) (by omega)]
  simpa using c
 | d + 1, x, acc, h1, ha, c => by
  refine Ev.step (fun _ => Q1.l1.eq_2 ..) (Qh (by omega) (Qh (by rw [toI_len]; omega) ?_))
  rw [Qbz (by omega), ← Qgq, ← Qgf]
  refine Qkp s h hh r d (x + 1) _ (by omega) (by simp; omega) ?_
  rw [List.range'_succ] at c
  rw [List.append_assoc]; exact c
theorem Qko {p : List Nat} (g : Good p) {s : Nat} (hs : s < 2 ^ p.length) (H : Nat) (hH : H = hgh p - 1) : ∀ (d i : Nat) (acc : List Nat), i + d = H + 1 → acc.length + 11 * d ≤ 200 → (∀ x ∈ acc, x ≤ H) →
  Ev (fun k => Q1.l0 k (s : Int) (toI acc) ((d : Int) - 1) (toI p)) ((((acc ++ (Qeh H i d).map (H - ·)).foldl (tgR p) s : Nat) : Int), true)
 | 0, i, acc, h, ha, hx => by
  have gh := Qd4 g
  refine Ev.step (fun _ => Q1.l0.eq_2 ..) (Qbj (by omega) ?_)
  have e : acc ++ (Qeh H i 0).map (H - ·) = acc := by simp [Qeh]
  rw [e]
  exact Ev.bind (Qib g acc (fun x hx' => by have := hx x hx'; omega) (by omega) hs) (Ev.now _)
 | d + 1, i, acc, h, ha, hx => by
  have gh := Qd4 g
  refine Ev.step (fun _ => Q1.l0.eq_2 ..) (Qh (by omega) ?_)
  rw [show ((d + 1 : Nat) : Int) - 1 = (d : Int) by omega]
  refine Qkp s d (by omega) _ (d + 1) 0 acc (by omega) (by omega) ?_
  have ih := Qko g hs H hH d (i + 1) (acc ++ List.range' 0 (d + 1)) (by omega) (by simp; omega) (by
   intro x hx'
   rw [List.mem_append, List.mem_range'_1] at hx'
   rcases hx' with h1 | h1
   ·
    exact hx x h1
   ·
    omega)
  rw [Qfo, List.map_append, Qnq H i (H + 1 - i) (by omega), show H + 1 - (i + (H + 1 - i)) = 0 by omega, show H + 1 - i = d + 1 by omega, ← List.append_assoc]
  exact ih
theorem Qig {p : List Nat} (g : Good p) {s : Nat} (hs : s < 2 ^ p.length) (H : Nat) (hH : H = hgh p - 1) (w : List Nat) (hw : ∀ x ∈ w, x ≤ H) (hl : w.length ≤ 1000) : ∀ (d q : Nat) (acc : List Nat), q + d = w.length → acc.length + d ≤ 1000 → (∀ x ∈ acc, x ≤ H) →
  Ev (fun k => Qbc.l0 k (s : Int) (toI acc) (H : Int) (toI w) ((toI w).length : Int) (q : Int) (toI p)) ((((acc ++ (w.drop q).map (H - ·)).foldl (tgR p) s : Nat) : Int), true)
 | 0, q, acc, h, ha, hx => by
  have gh := Qd4 g
  refine Ev.step (fun _ => Qbc.l0.eq_2 ..) (Qbj (by rw [toI_len]; omega) ?_)
  rw [List.drop_of_length_le (by omega), List.map_nil, List.append_nil]
  exact Ev.bind (Qfn g acc (fun x hx' => by have := hx x hx'; omega) (by omega) hs) (Ev.now _)
 | d + 1, q, acc, h, ha, hx => by
  have gh := Qd4 g
  have hq : q < w.length := by omega
  have he := hw _ (List.getElem_mem hq)
  have er : rd (toI w) (q : Int) = ((w[q] : Nat) : Int) := by rw [Qec]; simp [List.getD_eq_getElem?_getD, hq]
  refine Ev.step (fun _ => Qbc.l0.eq_2 ..) (Qh (by rw [toI_len]; omega) (Qh (by omega) (Qh (by rw [toI_len]; omega) (Qh (by rw [toI_len]; omega) ?_))))
  rw [er, Qbz (by omega), Qdg (by omega) (by omega), show (H : Int) - ((w[q] : Nat) : Int) = ((H - w[q] : Nat) : Int) by omega, ← Qgq, ← Qgf, List.drop_eq_getElem_cons hq, List.map_cons]
  have ih := Qig g hs H hH w hw hl d (q + 1) (acc ++ [H - w[q]]) (by omega) (by simp; omega) (by
   intro x hx'
   rw [List.mem_append, List.mem_singleton] at hx'
   rcases hx' with h1 | h1
   ·
    exact hx x h1
   ·
    omega)
  rw [List.append_assoc] at ih; exact ih
theorem Qhe (l : List Int) (s : Int) (hl : l.length ≤ 1048576) : ∃ r : Int × Bool, Ev (fun k => Qdm.f k l s) r ∧ Ev (fun k => Qbs.f k l s) r := by
 by_cases h : rvB l s = true
 ·
  obtain ⟨p, t, rfl, rfl, g, ht, hr⟩ := Qly h
  have gh := Qd4 g
  have hv := Qgg (H := hgh p - 1) (by omega)
  refine ⟨((((vac (hgh p - 1)).foldl (tgR p) t : Nat) : Int), true), ?_, ?_⟩
  ·
   exact Ev.bind (Qgp _ _) (Qh h (Ev.bind (Qfu g) (Ev.bind (Qib g _ (Qh0 g) (by omega) ht.1) (Ev.now _))))
  ·
   exact Ev.bind (Qdr _ _) (Qh h (Ev.bind (Qgy g) (Ev.bind (Qft (by omega)) (Ev.bind (Qfn g _ (Qh0 g) (by omega) ht.1) (Ev.now _)))))
 ·
  exact ⟨(0, false), Ev.bind (Qgp _ _) (Qbj h (Ev.now _)), Ev.bind (Qdr _ _) (Qbj h (Ev.now _))⟩
theorem Qgu (l : List Int) (s : Int) (hl : l.length ≤ 1048576) : ∃ r : Int × Bool, Ev (fun k => Q1.f k l s) r ∧ Ev (fun k => Qbc.f k l s) r := by
 by_cases h : rvB l s = true
 ·
  obtain ⟨p, t, rfl, rfl, g, ht, hr⟩ := Qly h
  have gh := Qd4 g
  have hv := Qgg (H := hgh p - 1) (by omega)
  refine ⟨(((((vac (hgh p - 1)).map (hgh p - 1 - ·)).foldl (tgR p) t : Nat) : Int), true), ?_, ?_⟩
  ·
   refine Ev.bind (Qgp _ _) (Qh h (Ev.bind (Qf9 g) ?_))
   rw [toI_len, Qf8, Qdg (by omega) (by omega)]
   have := Qko g ht.1 (hgh p - 1) rfl (hgh p - 1 + 1) 0 [] (by omega) (by simp; omega) (by simp)
   rw [List.nil_append, show ((hgh p - 1 + 1 : Nat) : Int) = ((hgh p : Nat) : Int) by omega] at this
   exact this
  ·
   refine Ev.bind (Qdr _ _) (Qh h (Ev.bind (Qgy g) (Ev.bind (Qft (by omega)) ?_)))
   have := Qig g ht.1 (hgh p - 1) rfl (vac (hgh p - 1)) (fun x hx => Qg3 hx) (by omega) _ 0 [] (Nat.zero_add _) (by simp; omega) (by simp)
   rw [List.nil_append, List.drop_zero] at this
   exact this
 ·
  exact ⟨(0, false), Ev.bind (Qgp _ _) (Qbj h (Ev.now _)), Ev.bind (Qdr _ _) (Qbj h (Ev.now _))⟩
end Go.Proofs.YtkgngggppcmpfaaGreat.M
end
section
namespace Go.Proofs.YtkgngggppcmpfaaGreat.L
open Go.RowKit Go.Proofs.YtkgngggppcmpfaaGreatW.PrintWords Go.Proofs.YtkgngggppcmpfaaGreatW.PrintLast Go.Proofs.YtkgngggppcmpfaaGreatW.PrintMore Go.Proofs.YtkgngggppcmpfaaGreat.X
attribute [local go_sem] Qt Qv Q2 Q3 Qm Qn Qu Qw
set_option linter.unusedVariables false
set_option linter.unusedSimpArgs false
end Go.Proofs.YtkgngggppcmpfaaGreat.L
end
section
namespace Go.Proofs.YtkgngggppcmpfaaGreat.M
open Go.RowKit Go.Proofs.YtkgngggppcmpfaaGreatW.PrintWords Go.Proofs.YtkgngggppcmpfaaGreatW.PrintLast Go.Proofs.YtkgngggppcmpfaaGreatW.PrintMore Go.Proofs.YtkgngggppcmpfaaGreat.L
set_option linter.unusedVariables false
theorem Qgv (l : List Int) (hl : l.length ≤ 1048576) : ∃ r : List Int × Bool, r.1.length ≤ 1000 ∧ Ev (fun k => Qdd.f k l) r ∧ Ev (fun k => Qdc.f k l) r := by
 by_cases h : rgB l = true
 ·
  obtain ⟨p, rfl, g, hr⟩ := Qiu h
  have gh := Qd4 g
  have hv := Qgg (H := hgh p - 1) (by omega)
  by_cases hc : ((toI (vac (hgh p - 1))).length : Int) > 40
  ·
   exact ⟨([], false), Nat.zero_le _, Ev.bind (Qe6 _) (Qh h (Ev.bind (Qfu g) (Qh hc (Ev.now _)))), Ev.bind (Qfl _) (Qh h (Ev.bind (Qgy g) (Ev.bind (Qft (by omega)) (Qh hc (Ev.now _)))))⟩
  ·
   exact ⟨(toI (vac (hgh p - 1)), true), by rw [toI_len]; omega, Ev.bind (Qe6 _) (Qh h (Ev.bind (Qfu g) (Qbj hc (Ev.now _)))), Ev.bind (Qfl _) (Qh h (Ev.bind (Qgy g) (Ev.bind (Qft (by omega)) (Qbj hc (Ev.now _)))))⟩
 ·
  exact ⟨([], false), Nat.zero_le _, Ev.bind (Qe6 _) (Qbj h (Ev.now _)), Ev.bind (Qfl _) (Qbj h (Ev.now _))⟩
theorem Qod {p : List Nat} (g : Good p) {s : Nat} (hs : IsId p s) (r : Nat) {x : Nat} (I : Mid p s (row p s) (fun i => r < hh p i) x) : ∀ n, n ≤ p.length →
  Mid p s (row p s) (fun i => r < hh p i ∨ (hh p i = r ∧ i < n)) (Qcn n (mask p r p.length) (tg p) x)
 | 0, _ => I.same fun k _ => by simp
 | n + 1, hn => by
  have ih := Qod g hs r I n (by omega)
  rw [Qdq]
  have hm : (mask p r p.length).testBit n = true ↔ hh p n = r := by rw [Qhs]; simp; omega
  by_cases c : hh p n = r
  ·
   rw [if_pos (hm.mpr c)]
   refine ih.row g hs (by omega) (by omega) (fun k hk => ?_) (fun j hj => ?_) (fun k _ => ?_)
   ·
    have := hh_lt g hk; omega
   ·
    have := hh_lt g hj; omega
   ·
    constructor
    ·
     rintro (h | ⟨h1, h2⟩)
     ·
      exact .inl (.inl h)
     ·
      by_cases e : k = n
      ·
       exact .inr e
      ·
       exact .inl (.inr ⟨h1, by omega⟩)
    ·
     rintro ((h | ⟨h1, h2⟩) | h)
     ·
      exact .inl h
     ·
      exact .inr ⟨h1, by omega⟩
     ·
      subst h; exact .inr ⟨c, by omega⟩
  ·
   rw [if_neg (fun h => c (hm.mp h))]
   refine ih.same fun k _ => ?_
   constructor
   ·
    rintro (h | ⟨h1, h2⟩)
    ·
     exact .inl h
    ·
     refine .inr ⟨h1, ?_⟩
     have : k ≠ n := fun e => by subst e; exact c h1
     omega
   ·
    rintro (h | ⟨h1, h2⟩)
    ·
     exact .inl h
    ·
     exact .inr ⟨h1, by omega⟩
theorem Qm1 {p : List Nat} (g : Good p) {s : Nat} (hs : IsId p s) : ∀ (d r : Nat), r + d = hgh p → Mid p s (row p s) (fun i => r ≤ hh p i) ((List.range' r d).reverse.foldl (tgR p) s)
 | 0, r, h => Mid.none _ hs fun i hi hc => by
  have := Qlt p p.length hi
  unfold hgh at h; omega
 | d + 1, r, h => by
  have ih := Qm1 g hs d (r + 1) (by omega)
  rw [List.range'_succ, List.reverse_cons, List.foldl_append]
  have := Qod g hs r (ih.same fun k _ => Iff.rfl) p.length (Nat.le_refl _)
  refine this.same fun k hk => ?_
  omega
theorem Qqg {p : List Nat} (g : Good p) {s : Nat} (hs : IsId p s) : (List.range (hgh p)).reverse.foldl (tgR p) s = row p s := by
 have h := Qm1 g hs (hgh p) 0 (by omega)
 rw [← List.range_eq_range'] at h
 exact h.all (row_lt g s) fun i _ => Nat.zero_le _
end Go.Proofs.YtkgngggppcmpfaaGreat.M
end
section
namespace Go.Proofs.YtkgngggppcmpfaaGreat.L
open Go.RowKit Go.Proofs.YtkgngggppcmpfaaGreatW.PrintWords Go.Proofs.YtkgngggppcmpfaaGreatW.PrintLast Go.Proofs.YtkgngggppcmpfaaGreatW.PrintMore
attribute [local go_sem] Qt Qv Q2 Q3 Qm Qn Qu Qw
set_option linter.unusedVariables false
set_option linter.unusedSimpArgs false
end Go.Proofs.YtkgngggppcmpfaaGreat.L
end
section
namespace Go.Proofs.YtkgngggppcmpfaaGreat.L
open Go.RowKit Go.Proofs.YtkgngggppcmpfaaGreatW.PrintWords Go.Proofs.YtkgngggppcmpfaaGreatW.PrintLast Go.Proofs.YtkgngggppcmpfaaGreatW.PrintMore Go.Proofs.YtkgngggppcmpfaaGreat.X
attribute [local go_sem] Qt Qv Q2 Q3 Qm Qn Qu Qw
set_option linter.unusedVariables false
set_option linter.unusedSimpArgs false
end Go.Proofs.YtkgngggppcmpfaaGreat.L
end
section
namespace Go.Proofs.YtkgngggppcmpfaaGreat.L
open Go.RowKit Go.Proofs.YtkgngggppcmpfaaGreatW.PrintWords Go.Proofs.YtkgngggppcmpfaaGreatW.PrintLast Go.Proofs.YtkgngggppcmpfaaGreatW.PrintMore
attribute [local go_sem] Qt Qv Q2 Q3 Qm Qn Qu Qw
set_option linter.unusedVariables false
set_option linter.unusedSimpArgs false
end Go.Proofs.YtkgngggppcmpfaaGreat.L
end
section
namespace Go.Proofs.YtkgngggppcmpfaaGreat.L
open Go.RowKit Go.Proofs.YtkgngggppcmpfaaGreatW.PrintWords Go.Proofs.YtkgngggppcmpfaaGreatW.PrintLast Go.Proofs.YtkgngggppcmpfaaGreatW.PrintMore Go.Proofs.YtkgngggppcmpfaaGreat.X
attribute [local go_sem] Qt Qv Q2 Q3 Qm Qn Qu Qw
set_option linter.unusedVariables false
set_option linter.unusedSimpArgs false
end Go.Proofs.YtkgngggppcmpfaaGreat.L
end
section
namespace Go.Proofs.YtkgngggppcmpfaaGreat.M
open Go.RowKit Go.Proofs.YtkgngggppcmpfaaGreatW.PrintWords Go.Proofs.YtkgngggppcmpfaaGreatW.PrintLast Go.Proofs.YtkgngggppcmpfaaGreatW.PrintMore Go.Proofs.YtkgngggppcmpfaaGreat.L
set_option linter.unusedVariables false
theorem Qns {α β : Type} {f : Nat → α → Option β} {r : α → β} : ∀ l : List α, (∀ x ∈ l, Ev (fun k => f k x) (r x)) → ∃ K, ∀ k, K ≤ k → ∀ x ∈ l, f k x = some (r x)
 | [], _ => ⟨0, fun _ _ x hx => absurd hx (by simp)⟩
 | a :: l, h => by
  obtain ⟨K, hK⟩ := Qns l fun x hx => h x (List.mem_cons_of_mem _ hx)
  obtain ⟨K', hK'⟩ := h a List.mem_cons_self
  refine ⟨max K K', fun k hk x hx => ?_⟩
  rcases List.mem_cons.mp hx with e | hx
  ·
   subst e; exact hK' k (by omega)
  ·
   exact hK k (by omega) x hx
def idls (p : List Nat) : List Nat := (List.range (2 ^ p.length)).filter (Qei p)
theorem Qi4 {p : List Nat} (g : Good p) : 2 ^ p.length ≤ 1024 := Nat.pow_le_pow_right (by omega) (show p.length ≤ 10 from g.le)
theorem Qkv {p : List Nat} (g : Good p) : (idls p).length ≤ 1024 := by
 unfold idls
 have := List.length_filter_le (Qei p) (List.range (2 ^ p.length))
 rw [List.length_range] at this
 exact Nat.le_trans this (Qi4 g)
theorem Qkz {p : List Nat} {s : Nat} : s ∈ idls p ↔ IsId p s := by
 unfold idls
 rw [List.mem_filter, List.mem_range]
 constructor
 ·
  rintro ⟨h1, h2⟩; exact (Qe8 h1).mp h2
 ·
  intro h; exact ⟨h.1, (Qe8 h.1).mpr h⟩
theorem Qii {p : List Nat} (g : Good p) : ∀ (d i : Nat) (acc : List Nat), i + d = 2 ^ p.length → acc.length ≤ i →
  Ev (fun k => Qb8.l0 k (toI acc) (i : Int) (toI p)) (toI (acc ++ (List.range' i d).filter (Qei p)))
 | 0, i, acc, h, ha => by
  refine Ev.step (fun _ => Qb8.l0.eq_2 ..) ?_
  have gl := g.le
  rw [toI_len, Qfi (by omega)]
  refine Qbj (by omega) ?_
  rw [List.range'_zero, List.filter_nil, List.append_nil]
  exact Ev.now _
 | d + 1, i, acc, h, ha => by
  refine Ev.step (fun _ => Qb8.l0.eq_2 ..) ?_
  have gl := g.le
  have gp := Qi4 g
  rw [toI_len, Qfi (by omega), List.range'_succ, List.filter_cons, Qbz (by omega)]
  refine Qh (by omega) (Ev.bind (Qhi g (show i < 2 ^ p.length by omega)) (Qc7 (fun e => ?_) (fun e => ?_)))
  ·
   rw [if_pos e]
   refine Qh (by rw [toI_len]; omega) ?_
   rw [← Qgq, ← Qgf]
   have e2 := Qii g d (i + 1) (acc ++ [i]) (by omega) (by rw [List.length_append, List.length_singleton]; omega)
   rw [List.append_assoc] at e2
   exact e2
  ·
   rw [if_neg e]
   exact Qii g d (i + 1) _ (by omega) (by omega)
theorem Qkl {p : List Nat} (g : Good p) : Ev (fun k => Qb8.f k (toI p)) (toI (idls p)) := by
 have := Qii g (2 ^ p.length) 0 [] (by omega) (Nat.le_refl 0)
 rw [List.nil_append, ← List.range_eq_range'] at this
 exact this
theorem Qmg {p : List Nat} (g : Good p) (i : Fn1) (hi : ∀ s : Nat, s < 2 ^ p.length → i.p (s : Int) = some (Qei p s)) (N : Nat) (hN : N = 2 ^ p.length) : ∀ (d q : Nat) (acc : List Nat), q + d = N → acc.length ≤ q →
  Ev (fun k => @Qbx.l0 i k (toI acc) (N : Int) (q : Int)) (toI (acc ++ (List.range' q d).filter (Qei p)))
 | 0, q, acc, h, ha => by
  refine Ev.step (fun _ => @Qbx.l0.eq_2 i ..) (Qbj (by omega) ?_)
  rw [List.range'_zero, List.filter_nil, List.append_nil]
  exact Ev.now _
 | d + 1, q, acc, h, ha => by
  refine Ev.step (fun _ => @Qbx.l0.eq_2 i ..) ?_
  have gp := Qi4 g
  rw [← hN] at gp
  rw [List.range'_succ, List.filter_cons, Qbz (by omega)]
  refine Qh (by omega) (Qbv (hi q (by rw [← hN]; omega)) (Qc7 (fun e => ?_) (fun e => ?_)))
  ·
   rw [if_pos e]
   refine Qh (by rw [toI_len]; omega) ?_
   rw [← Qgq, ← Qgf]
   have e2 := Qmg g i hi N hN d (q + 1) (acc ++ [q]) (by omega) (by rw [List.length_append, List.length_singleton]; omega)
   rw [List.append_assoc] at e2
   exact e2
  ·
   rw [if_neg e]
   exact Qmg g i hi N hN d (q + 1) _ (by omega) (by omega)
theorem Qnb {p : List Nat} (g : Good p) : Ev (fun k => Qb9.f k (toI p)) (toI (idls p)) := by
 obtain ⟨K, hK⟩ := Qns (f := fun k (s : Nat) => Qbe.f k (toI p) (s : Int)) (r := fun s => ((Qgc p s : Nat) : Int)) (List.range (2 ^ p.length)) fun s hs => Qhq g (List.mem_range.mp hs)
 have hi : ∀ k, K ≤ k → ∀ s : Nat, s < 2 ^ p.length → (Qb9.inst k (toI p)).p (s : Int) = some (Qei p s) := by
  intro k hk s hs
  show (Qbe.f k (toI p) (s : Int)).map (· == (s : Int)) = some (Qei p s)
  rw [hK k hk s (List.mem_range.mpr hs), Option.map_some]
  refine congrArg some ?_
  rw [Bool.eq_iff_iff, beq_iff_eq, Qe8 hs, ← Qhp hs]
  omega
 obtain ⟨K', h⟩ := Qmg g _ (hi K (Nat.le_refl _)) _ rfl (2 ^ p.length) 0 [] (by omega) (Nat.le_refl 0)
 refine Ev.of (Qb9.mono _) (k := max K K') ?_
 unfold Qb9.f Qbx.f
 have gl := g.le
 have e1 : wrap64 (((full p : Nat) : Int) + 1) = ((2 ^ p.length : Nat) : Int) := by
  have h2 := Nat.two_pow_pos p.length
  have gp := Qi4 g
  unfold full
  rw [show (((2 ^ p.length - 1 : Nat) : Int) + 1) = ((2 ^ p.length : Nat) : Int) by omega]
  exact Qdg (by omega) (by omega)
 rw [Qk8 gl, Option.bind_some, e1]
 have h3 := h (max K K') (by omega)
 rw [List.nil_append, ← List.range_eq_range'] at h3
 refine Qb9.mono_i _ _ (fun s r hr => ?_) _ _ _ _ _ h3
 obtain ⟨v, hv, e⟩ := Option.map_eq_some_iff.mp hr
 exact Option.map_eq_some_iff.mpr ⟨v, Qmn (Qbe.mono _ _) (show K ≤ max K K' by omega) hv, e⟩
def InL (L met : List Nat) : Prop := met.Nodup ∧ ∀ y ∈ met, y ∈ L
theorem InL.snoc {L met : List Nat} {x : Nat} (h : InL L met) (hx : x ∈ L) (hn : x ∉ met) : InL L (met ++ [x]) := by
 refine ⟨List.nodup_append.mpr ⟨h.1, by simp, ?_⟩, fun y hy => ?_⟩
 ·
  intro a ha b hb e
  rw [List.mem_singleton] at hb
  subst hb e
  exact hn ha
 ·
  rcases List.mem_append.mp hy with hy | hy
  ·
   exact h.2 y hy
  ·
   rw [List.mem_singleton] at hy; subst hy; exact hx
def Seen (N : Nat) (seen : List Bool) (met : List Nat) : Prop := seen.length = N ∧ ∀ s, s < N → seen.getD s false = decide (s ∈ met)
theorem Seen.snoc {N : Nat} {seen : List Bool} {met : List Nat} (h : Seen N seen met) (x : Nat) (hx : x < N) : Seen N (seen.set x true) (met ++ [x]) := by
 refine ⟨by rw [List.length_set]; exact h.1, fun s hs => ?_⟩
 by_cases e : s = x
 ·
  subst e
  have : s < seen.length := by rw [h.1]; exact hs
  simp [List.getD_eq_getElem?_getD, this]
 ·
  have h2 := h.2 s hs
  rw [List.getD_eq_getElem?_getD] at h2 ⊢
  rw [List.getElem?_set_ne (fun e' => e e'.symm), h2]
  simp [e]
theorem tg_tg {p : List Nat} {s e : Nat} (hs : IsId p s) (he : e < p.length) : tg p (tg p s e) e = s := by
 have hlt : s ^^^ 2 ^ e < 2 ^ p.length := Nat.xor_lt_two_pow hs.1 (Nat.pow_lt_pow_right (by omega) he)
 have hx : s ^^^ 2 ^ e ^^^ 2 ^ e = s := by rw [Nat.xor_assoc, Nat.xor_self, Nat.xor_zero]
 by_cases c : Qei p (s ^^^ 2 ^ e) = true
 ·
  have e1 : tg p s e = s ^^^ 2 ^ e := by unfold tg; rw [if_pos c]
  rw [e1]
  unfold tg
  rw [hx, if_pos ((Qe8 hs.1).mpr hs)]
 ·
  have e1 : tg p s e = s := by unfold tg; rw [if_neg c]
  rw [e1, e1]
end Go.Proofs.YtkgngggppcmpfaaGreat.M
end
section
namespace Go.Proofs.YtkgngggppcmpfaaGreat.M
set_option linter.unusedVariables false
def itr (f : Nat → Nat) : Nat → Nat → Nat
 | 0, x => x
 | n + 1, x => f (itr f n x)
theorem Qma (f : Nat → Nat) (m : Nat) (x : Nat) : ∀ n, itr f (n + m) x = itr f n (itr f m x)
 | 0 => by rw [Nat.zero_add]; rfl
 | n + 1 => by rw [Nat.add_right_comm]; show f _ = f _; rw [Qma f m x n]
def cyc (f : Nat → Nat) (x n : Nat) : List Nat := (List.range n).map fun i => itr f i x
structure IsCyc (L : List Nat) (f : Nat → Nat) (o : List Nat) : Prop where
 ex : ∃ x n, x ∈ L ∧ 0 < n ∧ itr f n x = x ∧ o = cyc f x n
 nd : o.Nodup
end Go.Proofs.YtkgngggppcmpfaaGreat.M
end
section
namespace Go.Proofs.YtkgngggppcmpfaaGreat.M
open Go.RowKit Go.Proofs.YtkgngggppcmpfaaGreatW.PrintWords Go.Proofs.YtkgngggppcmpfaaGreatW.PrintLast Go.Proofs.YtkgngggppcmpfaaGreatW.PrintMore Go.Proofs.YtkgngggppcmpfaaGreat.L
set_option linter.unusedVariables false
theorem Qjo {p : List Nat} (hr : Qer p = true) {i j : Nat} (h : i = j ∨ i + 2 ≤ j ∨ j + 2 ≤ i) : Free p (mask p i p.length) (mask p j p.length) := by
 intro x y hx hy
 rw [Qhs, Bool.and_eq_true, decide_eq_true_eq, decide_eq_true_eq] at hx hy
 refine ⟨Bool.eq_false_iff.mpr fun e => ?_, Bool.eq_false_iff.mpr fun e => ?_⟩
 ·
  have := Qlw hr hy.1 hx.1 e; omega
 ·
  have := Qlw hr hx.1 hy.1 e; omega
theorem Qmq {p : List Nat} (g : Good p) {a : Nat} (hf : Free p a a) : ∀ (n : Nat), n ≤ p.length → ∀ (s : Nat), IsId p s → Qcn n a (tg p) (Qcn n a (tg p) s) = s
 | 0, hn, s, hs => rfl
 | n + 1, hn, s, hs => by
  have hi : IsId p (Qcn n a (tg p) s) := Qea _ _ _ _ (IsId p) hs (fun a e ha he _ => Qhj ha (by omega))
  have ih := Qmq g hf n (by omega) s hs
  rw [Qdq, Qdq]
  by_cases c : a.testBit n = true
  ·
   rw [if_pos c, if_pos c, ← Qjk g (by omega : n < p.length) n (by omega) _ hi (fun y _ hy => hf n y c hy), tg_tg (Qea _ _ _ _ (IsId p) hi (fun a e ha he _ => Qhj ha (by omega))) (by omega), ih]
  ·
   rw [if_neg c, if_neg c, ih]
theorem tgR_id {p : List Nat} {s r : Nat} (hs : IsId p s) : IsId p (tgR p s r) := tgS_id hs
theorem Qg1 {p : List Nat} (g : Good p) (hr : Qer p = true) : Sys (tgR p) (IsId p) (hgh p) where
 keep := fun s r hs _ => tgR_id hs
 inv := fun s r hs _ => Qmq g (Qjo hr (.inl rfl)) _ (Nat.le_refl _) s hs
 com := fun s i j hs _ _ h => by
  have hd : ∀ {i j : Nat}, i ≠ j → ∀ x, (mask p i p.length).testBit x = true → (mask p j p.length).testBit x = false := fun {i j} hij x hx => by
   rw [Qhs, Bool.and_eq_true, decide_eq_true_eq, decide_eq_true_eq] at hx
   rw [Qhs, decide_eq_false (fun e : hh p x = j => hij (hx.2.symm.trans e)), Bool.and_false]
  unfold tgR
  rw [← Qm5 g (hd (by omega)) (Qjo hr (.inr (.inl h))) hs, ← Qm5 g (hd (by omega)) (Qjo hr (.inr (.inr h))) hs, Nat.or_comm]
theorem Qjc {p : List Nat} (g : Good p) {s : Nat} (hs : IsId p s) : (Bk 0 (hgh p)).foldl (tgR p) s = row p s := by
 rw [← Qqg g hs, Bk, List.range_eq_range']
theorem vac_Vf : ∀ (d i H : Nat), i + d = H + 1 → Qeh H i d = Vf i d
 | 0, i, H, _ => rfl
 | d + 1, i, H, h => by
  rw [Qfo, Vf, Bk, vac_Vf d (i + 1) H (by omega), show H + 1 - i = d + 1 by omega]
theorem Qo8 {p : List Nat} (g : Good p) : ∀ (n s : Nat), IsId p s → (repB (hgh p) n).foldl (tgR p) s = itr (row p) n s
 | 0, s, _ => rfl
 | n + 1, s, hs => by
  rw [repB, List.foldl_append, Qjc g hs, Qo8 g n _ (Qiv g hs)]
  exact (Qma (row p) 1 s n).symm
def rvac (p : List Nat) (s : Nat) : Nat := (vac (hgh p - 1)).foldl (tgR p) s
def dvac (p : List Nat) (s : Nat) : Nat := ((vac (hgh p - 1)).map (hgh p - 1 - ·)).foldl (tgR p) s
theorem Qhz (p : List Nat) (K : Nat) (h : hgh p = K + 1) : vac (hgh p - 1) = Vf 0 (K + 1) := by
 unfold vac; rw [h]; exact vac_Vf (K + 1) 0 K (by omega)
section
variable {p : List Nat} (g : Good p) (hr : Qer p = true) {s : Nat} (hs : IsId p s)
include g hr hs
theorem Qj9 : IsId p (rvac p s) := (Qg1 g hr).foldI _ s (Qh0 g) hs
theorem Ql9 : IsId p (dvac p s) := (Qg1 g hr).foldI _ s (fun x hx => by have := dual_mem hx; have := Qd4 g; omega) hs
theorem Qqi : rvac p (rvac p s) = s := by
 obtain ⟨K, hK⟩ : ∃ K, hgh p = K + 1 := ⟨hgh p - 1, by have := Qd4 g; omega⟩
 have S := Qg1 g hr
 have h := S.vacInv (d := K + 1) (i := 0) (by omega) s hs
 unfold rvac
 rw [Qhz p K hK, ← List.foldl_append]; exact h
theorem Qp5 : dvac p (dvac p s) = s := by
 obtain ⟨K, hK⟩ : ∃ K, hgh p = K + 1 := ⟨hgh p - 1, by have := Qd4 g; omega⟩
 have S := Qg1 g hr
 rw [hK] at S
 have h := S.dualInv s hs
 unfold dvac
 rw [Qhz p K hK, ← List.foldl_append, show hgh p - 1 = K by omega]; exact h
theorem row_rvac : row p (rvac p (row p s)) = rvac p s := by
 obtain ⟨K, hK⟩ : ∃ K, hgh p = K + 1 := ⟨hgh p - 1, by have := Qd4 g; omega⟩
 have S := Qg1 g hr
 have h := S.vacTurn (d := K) (i := 0) (by omega) s hs
 rw [List.foldl_append, List.foldl_append, ← hK, Qjc g hs] at h
 have e : (Vf 0 (hgh p)).foldl (tgR p) (row p s) = rvac p (row p s) := by unfold rvac; rw [Qhz p K hK, hK]
 rw [e, Qjc g (Qj9 g hr (Qiv g hs))] at h
 rw [h]; unfold rvac; rw [Qhz p K hK, hK]
theorem row_dvac : row p (dvac p (row p s)) = dvac p s := by
 obtain ⟨K, hK⟩ : ∃ K, hgh p = K + 1 := ⟨hgh p - 1, by have := Qd4 g; omega⟩
 have S := Qg1 g hr
 rw [hK] at S
 have h := S.dualTurn s hs
 have e : ∀ t, ((Vf 0 (K + 1)).map (K - ·)).foldl (tgR p) t = dvac p t := fun t => by unfold dvac; rw [Qhz p K hK, show hgh p - 1 = K by omega]
 rw [List.foldl_append, List.foldl_append, e, e, ← hK, Qjc g hs, Qjc g (Ql9 g hr (Qiv g hs))] at h
 exact h
theorem both_vac : dvac p (rvac p s) = itr (row p) (hgh p + 1) s := by
 obtain ⟨K, hK⟩ : ∃ K, hgh p = K + 1 := ⟨hgh p - 1, by have := Qd4 g; omega⟩
 have S := Qg1 g hr
 rw [hK] at S
 have h := S.vacBoth s hs
 have e : ∀ t, ((Vf 0 (K + 1)).map (K - ·)).foldl (tgR p) t = dvac p t := fun t => by unfold dvac; rw [Qhz p K hK, show hgh p - 1 = K by omega]
 have e2 : ∀ t, (Vf 0 (K + 1)).foldl (tgR p) t = rvac p t := fun t => by unfold rvac; rw [Qhz p K hK]
 rw [List.foldl_append, e, e2, ← hK, Qo8 g _ s hs] at h
 rw [h, hK]
end
end Go.Proofs.YtkgngggppcmpfaaGreat.M
end
section
namespace Go.Proofs.YtkgngggppcmpfaaGreat.L
open Go.RowKit Go.Proofs.YtkgngggppcmpfaaGreatW.PrintWords Go.Proofs.YtkgngggppcmpfaaGreatW.PrintLast Go.Proofs.YtkgngggppcmpfaaGreatW.PrintMore Go.Proofs.YtkgngggppcmpfaaGreat.X
attribute [local go_sem] Qt Qv Q2 Q3 Qm Qn Qu Qw
set_option linter.unusedVariables false
set_option linter.unusedSimpArgs false
end Go.Proofs.YtkgngggppcmpfaaGreat.L
end
