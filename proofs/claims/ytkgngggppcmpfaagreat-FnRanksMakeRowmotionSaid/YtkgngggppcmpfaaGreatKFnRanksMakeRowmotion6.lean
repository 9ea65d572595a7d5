/- Laws about the given program: the law FnRanksMakeRowmotion answers true for every input that its row lets in; no condition is added to the given statement. Contracts of the Go functions that it reaches, and the plain proof over lists. -/
import Derived.Test.YtkgngggppcmpfaaGreatWFnRanksMakeRowmotion0
import Derived.Test.YtkgngggppcmpfaaGreatKFnRanksMakeRowmotion0
import Derived.Test.YtkgngggppcmpfaaGreatKFnRanksMakeRowmotion1
import Derived.Test.YtkgngggppcmpfaaGreatKFnRanksMakeRowmotion2
import Derived.Test.YtkgngggppcmpfaaGreatKFnRanksMakeRowmotion3
import Derived.Test.YtkgngggppcmpfaaGreatKFnRanksMakeRowmotion4
import Derived.Test.YtkgngggppcmpfaaGreatKFnRanksMakeRowmotion5
section
namespace Go.Proofs.YtkgngggppcmpfaaGreat.L
open Go.RowKit Go.Proofs.YtkgngggppcmpfaaGreatW.PrintWords Go.Proofs.YtkgngggppcmpfaaGreatW.PrintLast Go.Proofs.YtkgngggppcmpfaaGreatW.PrintMore Go.Proofs.YtkgngggppcmpfaaGreat.X
attribute [local go_sem] Q2 Q4 Qbb Qbc Qt Qu Q3 Q5
set_option linter.unusedVariables false
set_option linter.unusedSimpArgs false
def Qcd.l0 : Nat → Int → Int → Int → Int → List Int → Option (Int)
 |0,_,_,_,_,_=>none
 |k+1,x1,x2,x10,x11,x514000=>if x11<x10 then ((Qc0.f x2 x11).bind fun t514=>(if t514=true then ((Qez.f k x514000 x1 x11).bind fun t515=>(Qcd.l0 k t515 x2 x10 (wrap64 (x11+1)) x514000)) else (Qcd.l0 k x1 x2 x10 (wrap64 (x11+1)) x514000))) else (some x1)
def Qcd.f (k : Nat) (l0_0 : List Int) (a1 : Int) (a2 : Int) : Option (Int) := Qcd.l0 k a1 a2 (l0_0.length : Int) 0 l0_0
theorem Qcd.mono_l : ∀ k, (∀ y0 y1 y2 y3 y4, LeO (Qcd.l0 k y0 y1 y2 y3 y4) (Qcd.l0 (k + 1) y0 y1 y2 y3 y4))
 |0=>fun _ _ _ _ _ r h=>by simp [Qcd.l0] at h
 |k+1=>by
  have ih0:=Qcd.mono_l k
  ·
   intro y0 y1 y2 y3 y4;unfold Qcd.l0
   repeat' first
   |(with_reducible exact ih0 _ _ _ _ _)
   |(with_reducible exact Qez.mono _ _ _ _)
   |(with_reducible exact LeO.refl _)
   |(with_reducible exact LeO.none _)
   |(with_reducible refine LeO.ite ?_ ?_)
   |(with_reducible refine LeO.bind ?_ (fun _=> ?_))
   |exact ih0 _ _ _ _ _
   |exact Qez.mono _ _ _ _
   |exact LeO.none _
   |refine LeO.ite ?_ ?_
   |refine LeO.bind ?_ (fun _=> ?_)
theorem Qcd.mono : ∀ a0 a1 a2 k, LeO (Qcd.f k a0 a1 a2) (Qcd.f (k + 1) a0 a1 a2) := by
 intro a0 a1 a2 k;have ih0:=Qcd.mono_l k;unfold Qcd.f
 repeat' (with_reducible first|apply ih0|apply Qez.mono|exact LeO.refl _|exact LeO.none _|refine LeO.ite ?_ ?_|refine LeO.bind ?_ (fun _=> ?_))
set_option maxHeartbeats 8000000 in
set_option maxRecDepth 100000 in
theorem Qcd.calls (k : Nat) (A0_0 : Option Addr) (c0_0 : Nat) (l0_0 : List Int) (a1 : Int) (a2 : Int) (r : Int) (w : World) (hr0_0 : Kd.C (Kd.int .i64) w A0_0 l0_0.length l0_0) (hc0_0 : l0_0.length ≤ c0_0) (h : Qcd.f k l0_0 a1 a2 = some r) :
 Calls Tryz.prog 279 #[.agg #[.slice A0_0 l0_0.length c0_0], .int .i64 a1, .int .i64 a2] w fun e w'=>e= .returned (.int .i64 r)∧Below w.heap.size w w':=by
 have hu26:=Tryz.underlying26;have HR0_0:=Aside0.mk hr0_0;have HC0_0:=Aside0.mk hc0_0;clear hr0_0 hc0_0;have HB:=Aside0.mk (Below.refl w.heap.size w);have H:(Qcd.l0 k a1 a2 (l0_0.length:Int) 0 l0_0)=some r:=h;clear h;have H':=Aside0.mk H;clear H;go_enter Tryz.func279,Tryz.ntmps279;go_wp2_with (first|(refine bE (N:=3) (cs:= #[.slice A0_0 l0_0.length c0_0]) (t:=26) ?_;intro gb513 hg w4 hbox hb;have BK513:=Aside0.mk (hbox);have GW513:=Aside0.mk ((gV hg (uB HB)));have GE513:=GW513;replace HB:=Aside0.mk (Qb (uB HB) hb);clear hb hbox hg;have hcz5_0:=bC BK513;have hfz5_0:=Qf BK513.out 0))
 go_loopg [1,11] k (fun kq v1 v11 w'=> ∃ (x1_1:Int) (x11_1:Int),v1= .int .i64 x1_1∧v11= .int .i64 x11_1∧Aside0 (Qcd.l0 kq x1_1 a2 (l0_0.length:Int) x11_1 l0_0=some r)∧Aside0 (kq≤k)∧Aside0 (w'.heap[gb513]? =some (.cells #[(.slice A0_0 l0_0.length c0_0)] 26 (0,0)))∧Aside0 (Below w.heap.size w w'))
 case atStart=>exact ⟨(a1),(0),(by first|rfl|(simp;done)|(simp [*];done)),(by first|rfl|(simp;done)|(simp [*];done)),H',⟨Nat.le_refl _⟩,⟨uK BK513⟩,⟨uB HB⟩⟩
 case round=>
  clear H'
  try clear c2
  try clear p2
  try clear hcz5_0
  try clear hfz5_0
  obtain ⟨x1_1,x11_1,rfl,rfl,HA,HK1,BK513,HB⟩:=hrel;cases gk with
  |zero=>exact absurd HA.out (by simp [Qcd.l0])
  |succ k1=>
   have H:=HA.out;clear HA;simp only [Qcd.l0] at H
   by_cases c6:x11_1<(l0_0.length:Int)
   ·
    rw [if_pos c6] at H;have c6b0:=decide_eq_true c6;clear c6;obtain ⟨t514,A7,H⟩:=bs H;(try dsimp only at H)
    by_cases c8:t514=true
    ·
     subst c8;rw [if_pos rfl] at H;obtain ⟨t515,A9,H⟩:=bs H;(try dsimp only at H)
     have H':=Aside0.mk H;clear H;go_wp2_with (first|(refine gA (some 16) Tryz.func253 #[.int .i64 a2, .int .i64 x11_1] ?_;(with_reducible refine (Qc0.calls a2 x11_1 true _ A7.out).mono ?_);rintro e w' ⟨rfl,⟨nd,rfl⟩⟩;refine ⟨_,rfl,?_⟩;have hcz10_0:=bC BK513;have hfz10_0:=Qf BK513.out 0)|(refine gA (some 20) Tryz.func331 #[.agg #[.slice A0_0 l0_0.length c0_0], .int .i64 x1_1, .int .i64 x11_1] ?_;(with_reducible refine (Qez.calls k1 _ _ l0_0 x1_1 x11_1 t515 _ ?side1 HC0_0.out A9.out).mono ?_);(case side1=>repeat (first|exact (Kd.C_below HR0_0.out (uB HB))|(with_reducible refine Kd.C_alloc ?_ _)|(with_reducible refine Kd.C_drewN ?_ _)|(with_reducible refine Kd.C_drew ?_)));rintro e w11 ⟨rfl,hb⟩;refine ⟨_,rfl,?_⟩;replace BK513:=Aside0.mk (Qc (uK BK513) hb);replace HB:=Aside0.mk (Qb (uB HB) hb);(try clear hb)));go_roundg k1
     case measure=>have:=HK1.out;omega
     case rel=>exact ⟨(t515),(wrap64 (x11_1+1)),(by first|rfl|(simp;done)|(simp [*];done)),(by first|rfl|(simp;done)|(simp [*];done)),H',⟨by have:=HK1.out;omega⟩,⟨uK BK513⟩,⟨uB HB⟩⟩
    ·
     replace c8:=Bool.eq_false_iff.mpr c8;subst c8;rw [if_neg (show ¬ (false=true) by decide)] at H;have H':=Aside0.mk H;clear H;go_wp2_with (first|(refine gA (some 16) Tryz.func253 #[.int .i64 a2, .int .i64 x11_1] ?_;(with_reducible refine (Qc0.calls a2 x11_1 false _ A7.out).mono ?_);rintro e w' ⟨rfl,⟨nd,rfl⟩⟩;refine ⟨_,rfl,?_⟩));go_roundg k1
     case measure=>have:=HK1.out;omega
     case rel=>exact ⟨(x1_1),(wrap64 (x11_1+1)),(by first|rfl|(simp;done)|(simp [*];done)),(by first|rfl|(simp;done)|(simp [*];done)),H',⟨by have:=HK1.out;omega⟩,⟨uK BK513⟩,⟨uB HB⟩⟩
   ·
    rw [if_neg c6] at H;have c6b0:=decide_eq_false c6;clear c6;obtain rfl:=Option.some.inj H;go_wp2
    go_ret
    exact ⟨by first|rfl|(simp [Qd,Qe] <;>rfl)|(simp [*,Qd,Qe] <;>rfl),uB HB⟩
def Qbv.l0 : Nat → Int → List Int → List Int → Int → Int → List Int → Option (Int)
 |0,_,_,_,_,_,_=>none
 |k+1,x1,x7,x12,x13,x14,x517000=>if x14<x13 then (if 0≤x14 then (if x14<(x12.length:Int) then (if 0≤(rd x12 x14) then (if (rd x12 x14)<(x7.length:Int) then ((Qcd.f k x517000 x1 (rd x7 (rd x12 x14))).bind fun t522=>(Qbv.l0 k t522 x7 x12 x13 (wrap64 (x14+1)) x517000)) else (none)) else (none)) else (none)) else (none)) else (some x1)
def Qbv.f (k : Nat) (l0_0 : List Int) (a1 : Int) (l2 : List Int) : Option (Int) := (Q0.f k l0_0).bind fun t517 => (Qbv.l0 k a1 t517 l2 (l2.length : Int) 0 l0_0)
theorem Qbv.mono_l : ∀ k, (∀ y0 y1 y2 y3 y4 y5, LeO (Qbv.l0 k y0 y1 y2 y3 y4 y5) (Qbv.l0 (k + 1) y0 y1 y2 y3 y4 y5))
 |0=>fun _ _ _ _ _ _ r h=>by simp [Qbv.l0] at h
 |k+1=>by
  have ih0:=Qbv.mono_l k
  ·
   intro y0 y1 y2 y3 y4 y5;unfold Qbv.l0
   repeat' first
   |(with_reducible exact ih0 _ _ _ _ _ _)
   |(with_reducible exact Qcd.mono _ _ _ _)
   |(with_reducible exact Q0.mono _ _)
   |(with_reducible exact LeO.refl _)
   |(with_reducible exact LeO.none _)
   |(with_reducible refine LeO.ite ?_ ?_)
   |(with_reducible refine LeO.bind ?_ (fun _=> ?_))
   |exact ih0 _ _ _ _ _ _
   |exact Qcd.mono _ _ _ _
   |exact Q0.mono _ _
   |exact LeO.none _
   |refine LeO.ite ?_ ?_
   |refine LeO.bind ?_ (fun _=> ?_)
theorem Qbv.mono : ∀ a0 a1 a2 k, LeO (Qbv.f k a0 a1 a2) (Qbv.f (k + 1) a0 a1 a2) := by
 intro a0 a1 a2 k;have ih0:=Qbv.mono_l k;unfold Qbv.f
 repeat' (with_reducible first|apply ih0|apply Qcd.mono|apply Q0.mono|exact LeO.refl _|exact LeO.none _|refine LeO.ite ?_ ?_|refine LeO.bind ?_ (fun _=> ?_))
def Qbv.T5 : Bool × List (List Nat × List Nat) := (true, [([], []), ([], []), ([], []), ([], []), ([2, 3], [2, 3]), ([4], [4]), ([0, 1, 5], [0, 1, 5]), ([6, 6, 0, 1, 2, 3, 4, 5, 6], [1, 6])])
def Qbv.B5 : List Nat := [0, 0, 0, 0, 12, 28, 63, 127]
theorem Qbv.tab5 : rtab .any (Qfj Tryz.f153 5) = Qbv.T5 := by kernel_rfl
theorem Qbv.bits5 : Qea Qbv.T5.2 Qbv.B5 = true := by kernel_rfl
set_option maxHeartbeats 8000000 in
set_option maxRecDepth 100000 in
theorem Qbv.calls (k : Nat) (A0_0 : Option Addr) (c0_0 : Nat) (l0_0 : List Int) (a1 : Int) (A2 : Option Addr) (c2 : Nat) (l2 : List Int) (r : Int) (w : World) (hr0_0 : Kd.C (Kd.int .i64) w A0_0 l0_0.length l0_0) (hc0_0 : l0_0.length ≤ c0_0) (hr2 : Kd.C (Kd.int .i64) w A2 l2.length l2) (hc2 : l2.length ≤ c2) (h : Qbv.f k l0_0 a1 l2 = some r) :
 Calls Tryz.prog 153 #[.agg #[.slice A0_0 l0_0.length c0_0], .int .i64 a1, .slice A2 l2.length c2] w fun e w'=>e= .returned (.int .i64 r)∧Below w.heap.size w w':=by
 have hu26:=Tryz.underlying26;have HR0_0:=Aside0.mk hr0_0;have HC0_0:=Aside0.mk hc0_0;clear hr0_0 hc0_0;have HR2:=Aside0.mk hr2;have HC2:=Aside0.mk hc2;clear hr2 hc2;have HB:=Aside0.mk (Below.refl w.heap.size w);have H:((Q0.f k l0_0).bind fun t517=>(Qbv.l0 k a1 t517 l2 (l2.length:Int) 0 l0_0))=some r:=h;clear h;obtain ⟨t517,A4,H⟩:=bs H;(try dsimp only at H)
 have H':=Aside0.mk H;clear H;go_enter Tryz.func153,Tryz.ntmps153;go_wp2_with (first|(refine bE (N:=3) (cs:= #[.slice A0_0 l0_0.length c0_0]) (t:=26) ?_;intro gb516 hg w5 hbox hb;have BK516:=Aside0.mk (hbox);have GW516:=Aside0.mk ((gV hg (uB HB)));have GE516:=GW516;replace HB:=Aside0.mk (Qb (uB HB) hb);clear hb hbox hg;have hcz6_0:=bC BK516;have hfz6_0:=Qf BK516.out 0)|(refine gA (some 11) Tryz.func155 #[.agg #[.slice A0_0 l0_0.length c0_0]] ?_;(with_reducible refine (Q0.calls k _ _ l0_0 t517 _ (uD HR0_0 HB) HC0_0.out A4.out).mono ?_);rintro e w7 ⟨v518,rfl,ho0,hb⟩;refine ⟨_,rfl,?_⟩;have HO519:=Aside0.mk (Kd.R_lower ho0 (Qj (uB HB)));replace BK516:=Aside0.mk (Qc (uK BK516) hb);replace HB:=Aside0.mk (Qb (uB HB) hb);(try clear hb ho0)))
 go_loopg [1,14] k (fun kq v1 v14 w'=> ∃ (x1_1:Int) (x14_1:Int),v1= .int .i64 x1_1∧v14= .int .i64 x14_1∧Aside0 (Qbv.l0 kq x1_1 t517 l2 (l2.length:Int) x14_1 l0_0=some r)∧Aside0 (kq≤k)∧Aside0 (Kd.R (Kd.int .i64) 3 w' w.heap.size (fun _=>True) v518 t517)∧Aside0 (w'.heap[gb516]? =some (.cells #[(.slice A0_0 l0_0.length c0_0)] 26 (0,0)))∧Aside0 (Below w.heap.size w w'))
 case atStart=>exact ⟨(a1),(0),(by first|rfl|(simp;done)|(simp [*];done)),(by first|rfl|(simp;done)|(simp [*];done)),H',⟨Nat.le_refl _⟩,⟨uR HO519⟩,⟨uK BK516⟩,⟨uB HB⟩⟩
 case round=>
  clear H'
  try clear c1
  try clear c2
  try clear p2
  try clear hcz6_0
  try clear hfz6_0
  obtain ⟨x1_1,x14_1,rfl,rfl,HA,HK1,HO_7,BK516,HB⟩:=hrel;cases gk with
  |zero=>exact absurd HA.out (by simp [Qbv.l0])
  |succ k1=>
   have H:=HA.out;clear HA;simp only [Qbv.l0] at H
   by_cases c8:x14_1<(l2.length:Int)
   ·
    rw [if_pos c8] at H;have c8b0:=decide_eq_true c8;clear c8
    by_cases c9:0≤x14_1
    ·
     rw [if_pos c9] at H;have c9b0:=decide_eq_true c9;clear c9
     by_cases c10:x14_1<(l2.length:Int)
     ·
      rw [if_pos c10] at H;have c10b0:=decide_eq_true c10;clear c10
      by_cases c11:0≤(rd l2 x14_1)
      ·
       rw [if_pos c11] at H;have c11b0:=decide_eq_true c11;clear c11
       by_cases c12:(rd l2 x14_1)<(t517.length:Int)
       ·
        rw [if_pos c12] at H;have c12b0:=decide_eq_true c12;clear c12;obtain ⟨t522,A13,H⟩:=bs H;(try dsimp only at H)
        have H':=Aside0.mk H;clear H;have p520:0≤(x14_1:Int):=of_decide_eq_true (by first|(with_reducible assumption)|assumption);have q520:x14_1<(l2.length:Int):=of_decide_eq_true (by first|(with_reducible assumption)|assumption);obtain ⟨ad520,e520,hx520_0⟩:=Kd.at_int HR2.out x14_1 p520 q520;cases e520;replace hx520_0:=(HB.out.cell (World.block_lt_of_cell? w _ hx520_0)).trans hx520_0;replace p520:=eq_true p520;replace q520:=eq_true q520
        try go_wp2
        replace HO_7:=Aside0.mk (Kd.R_drew HO_7.out);replace BK516:=Aside0.mk (Ql BK516.out);replace HB:=Aside0.mk (Qo HB.out);obtain ⟨Ao15,co15,eo15⟩:=Kd.R_slice HO_7.out
        (first|subst eo15|(injection eo15 with f1_ f2_ f3_;have f4_:=f1_.symm;have f5_:=f3_.symm;clear f1_ f2_ f3_;subst f4_;subst f5_))
        have p521:0≤((rd l2 x14_1):Int):=of_decide_eq_true (by first|(with_reducible assumption)|assumption);have q521:(rd l2 x14_1)<(t517.length:Int):=of_decide_eq_true (by first|(with_reducible assumption)|assumption);obtain ⟨ad521,e521,hx521_0⟩:=Kd.at_int (Kd.R_reads' HO_7.out).2.2 (rd l2 x14_1) p521 q521;cases e521;replace p521:=eq_true p521;replace q521:=eq_true q521;refine sU (n:=8) (S:=fun w'=>w'.cell? ⟨gb516,0,none⟩=some (.slice A0_0 l0_0.length c0_0)∧w'.cell? (ad521.add ((rd l2 x14_1)).toNat)=some (.int .i64 (rd t517 (rd l2 x14_1)))) (ds:= []) ⟨(Qcg BK516.out 0).trans rfl,hx521_0⟩ (fun hHeld=> ?_);refine Qeb Qbv.tab5 Qbv.bits5 (fun HT_ HW_=> ?_);generalize wr.drew=w14 at HO_7 BK516 HB hx521_0 hHeld ⊢;refine pU 1 19 ?_;refine pU 2 20 ?_;refine pU 3 21 ?_;refine pU 4 22 ?_;refine tW 0 18 hHeld ?_;refine tW 5 23 hHeld ?_;refine oU 6 (some 24) fun K hK=> ?_
        refine Qe0 Tryz.func279 (by kernel_rfl) rfl #[.agg #[.slice A0_0 l0_0.length c0_0], .int .i64 x1_1, .int .i64 (rd t517 (rd l2 x14_1))] (by rfl) rfl rfl (by (try simp only [List.map_toArray,List.map_cons,List.map_nil]);first|done|rfl|(simp only [List.length_drop,List.length_take];rfl)) ?_
        with_reducible refine (Qcd.calls k1 _ _ l0_0 x1_1 (rd t517 (rd l2 x14_1)) t522 _ ?side1 ?side2 A13.out).mono ?_
        (case side1=>repeat (first|exact (Kd.C_below HR0_0.out HB.out)|(with_reducible refine Kd.C_alloc ?_ _)|(with_reducible refine Kd.C_drewN ?_ _)|(with_reducible refine Kd.C_drew ?_)))
        (case side2=>exact HC0_0.out)
        rintro e w16 ⟨rfl,hb⟩;have HS1_:=(hb.cell (World.block_lt_of_cell? _ _ (hHeld.2))).trans (hHeld.2);refine ⟨_,rfl,?_⟩;replace HO_7:=Aside0.mk (Kd.R_below (uR HO_7) hb);replace BK516:=Aside0.mk (Qc (uK BK516) hb);replace HB:=Aside0.mk (Qb (uB HB) hb)
        skip
        skip
        skip
        skip
        refine hK.out _ _ ⟨(Qcg BK516.out 0).trans rfl,HS1_⟩ (fun hHeld=> ?_);clear hK K;refine nU 24 ?_;refine pU 7 1 ?_;refine dU ?_
        try go_wp2
        go_roundg k1
        case measure=>have:=HK1.out;omega
        case rel=>exact ⟨(t522),(wrap64 (x14_1+1)),(by first|rfl|(simp;done)|(simp [*];done)),(by first|rfl|(simp;done)|(simp [*];done)),H',⟨by have:=HK1.out;omega⟩,⟨uR HO_7⟩,⟨uK BK516⟩,⟨uB HB⟩⟩
       ·
        rw [if_neg c12] at H;exact absurd H (by simp)
      ·
       rw [if_neg c11] at H;exact absurd H (by simp)
     ·
      rw [if_neg c10] at H;exact absurd H (by simp)
    ·
     rw [if_neg c9] at H;exact absurd H (by simp)
   ·
    rw [if_neg c8] at H;have c8b0:=decide_eq_false c8;clear c8;obtain rfl:=Option.some.inj H;go_wp2
    go_ret
    exact ⟨by first|rfl|(simp [Qd,Qe] <;>rfl)|(simp [*,Qd,Qe] <;>rfl),uB HB⟩
def Qb3.l0 : Nat → Int → List Int → Int → List Int → Option (Int × Bool)
 |0,_,_,_,_=>none
 |k+1,x1,x6,x7,x974000=>if x7 ≥ 0 then (if x6.length<17592186044416 then (Qb3.l0 k x1 (x6++ [x7]) (wrap64 (x7 - 1)) x974000) else (none)) else ((Qbv.f k x974000 x1 x6).bind fun t981=>(some (t981,true)))
def Qb3.f (k : Nat) (l0_0 : List Int) (a1 : Int) : Option (Int × Bool) := (Qcl.f k l0_0 a1).bind fun t974 => (if t974 = true then ((Q0.f k l0_0).bind fun t975 => (Qb3.l0 k a1 ([] : List Int) (wrap64 ((t975.length : Int) - 1)) l0_0)) else (some (0, false)))
theorem Qb3.mono_l : ∀ k, (∀ y0 y1 y2 y3, LeO (Qb3.l0 k y0 y1 y2 y3) (Qb3.l0 (k + 1) y0 y1 y2 y3))
 |0=>fun _ _ _ _ r h=>by simp [Qb3.l0] at h
 |k+1=>by
  have ih0:=Qb3.mono_l k
  ·
   intro y0 y1 y2 y3;unfold Qb3.l0
   repeat' first
   |(with_reducible exact ih0 _ _ _ _)
   |(with_reducible exact Qcl.mono _ _ _)
   |(with_reducible exact Q0.mono _ _)
   |(with_reducible exact Qbv.mono _ _ _ _)
   |(with_reducible exact LeO.refl _)
   |(with_reducible exact LeO.none _)
   |(with_reducible refine LeO.ite ?_ ?_)
   |(with_reducible refine LeO.bind ?_ (fun _=> ?_))
   |exact ih0 _ _ _ _
   |exact Qcl.mono _ _ _
   |exact Q0.mono _ _
   |exact Qbv.mono _ _ _ _
   |exact LeO.none _
   |refine LeO.ite ?_ ?_
   |refine LeO.bind ?_ (fun _=> ?_)
theorem Qb3.mono : ∀ a0 a1 k, LeO (Qb3.f k a0 a1) (Qb3.f (k + 1) a0 a1) := by
 intro a0 a1 k;have ih0:=Qb3.mono_l k;unfold Qb3.f
 repeat' (with_reducible first|apply ih0|apply Qcl.mono|apply Q0.mono|apply Qbv.mono|exact LeO.refl _|exact LeO.none _|refine LeO.ite ?_ ?_|refine LeO.bind ?_ (fun _=> ?_))
set_option maxHeartbeats 8000000 in
set_option maxRecDepth 100000 in
theorem Qb3.calls (k : Nat) (A0_0 : Option Addr) (c0_0 : Nat) (l0_0 : List Int) (a1 : Int) (r1 : Int) (r2 : Bool) (w : World) (hr0_0 : Kd.C (Kd.int .i64) w A0_0 l0_0.length l0_0) (hc0_0 : l0_0.length ≤ c0_0) (h : Qb3.f k l0_0 a1 = some (r1, r2)) :
 Calls Tryz.prog 80 #[.agg #[.slice A0_0 l0_0.length c0_0], .int .i64 a1] w fun e w'=>e= .returned (.tuple #[.int .i64 r1, .bool r2])∧Below w.heap.size w w':=by
 have hu26:=Tryz.underlying26;have HR0_0:=Aside0.mk hr0_0;have HC0_0:=Aside0.mk hc0_0;clear hr0_0 hc0_0;have HB:=Aside0.mk (Below.refl w.heap.size w);have H:((Qcl.f k l0_0 a1).bind fun t974=>(if t974=true then ((Q0.f k l0_0).bind fun t975=>(Qb3.l0 k a1 ([] :List Int) (wrap64 ((t975.length:Int) - 1)) l0_0)) else (some (0,false))))=some (r1,r2):=h;clear h;obtain ⟨t974,A3,H⟩:=bs H;(try dsimp only at H)
 by_cases c4:t974=true
 ·
  subst c4;rw [if_pos rfl] at H;obtain ⟨t975,A5,H⟩:=bs H;(try dsimp only at H)
  have H':=Aside0.mk H;clear H;go_enter Tryz.func80,Tryz.ntmps80;go_wp2_with (first|(refine bE (N:=2) (cs:= #[.slice A0_0 l0_0.length c0_0]) (t:=26) ?_;intro gb973 hg w6 hbox hb;have BK973:=Aside0.mk (hbox);have GW973:=Aside0.mk ((gV hg (uB HB)));have GE973:=GW973;replace HB:=Aside0.mk (Qb (uB HB) hb);clear hb hbox hg;have hcz7_0:=bC BK973;have hfz7_0:=Qf BK973.out 0)|(refine gA (some 10) Tryz.func152 #[.agg #[.slice A0_0 l0_0.length c0_0], .int .i64 a1] ?_;(with_reducible refine (Qcl.calls k _ _ l0_0 a1 true _ (uD HR0_0 HB) HC0_0.out A3.out).mono ?_);rintro e w8 ⟨rfl,hb⟩;refine ⟨_,rfl,?_⟩;replace BK973:=Aside0.mk (Qc (uK BK973) hb);replace HB:=Aside0.mk (Qb (uB HB) hb);(try clear hb);have hcz9_0:=bC BK973;have hfz9_0:=Qf BK973.out 0)|(refine gA (some 13) Tryz.func155 #[.agg #[.slice A0_0 l0_0.length c0_0]] ?_;(with_reducible refine (Q0.calls k _ _ l0_0 t975 _ (uD HR0_0 HB) HC0_0.out A5.out).mono ?_);rintro e w10 ⟨v976,rfl,ho0,hb⟩;refine ⟨_,rfl,?_⟩;have HO977:=Aside0.mk (Kd.R_lower ho0 (Qj (uB HB)));replace BK973:=Aside0.mk (Qc (uK BK973) hb);replace HB:=Aside0.mk (Qb (uB HB) hb);(try clear hb ho0);obtain ⟨Ao11,co11,eo11⟩:=Kd.R_slice HO977.out;subst eo11))
  go_loopg [6,7] k (fun kq v6 v7 w'=> ∃ (x6_1:List Int) (x7_1:Int),v7= .int .i64 x7_1∧Aside0 (Qb3.l0 kq a1 x6_1 x7_1 l0_0=some (r1,r2))∧Aside0 (kq≤k)∧Aside0 (Kd.R (Kd.int .i64) 3 w' w.heap.size (fun _=>True) v6 x6_1)∧Aside0 (w'.heap[gb973]? =some (.cells #[(.slice A0_0 l0_0.length c0_0)] 26 (0,0)))∧Aside0 (Below w.heap.size w w'))
  case atStart=>exact ⟨(([] :List Int)),(wrap64 ((t975.length:Int) - 1)),(by first|rfl|(simp;done)|(simp [*];done)),H',⟨Nat.le_refl _⟩,⟨by first|exact Kd.R_nil _ _ _ _ _|exact Kd.N_nil _ _ _ _ _|exact Kd.V_nil _ _ _ _ _|exact Kd.Q_nil _ _ _ _ _|exact Kd.S_nil _ _ _ _ _⟩,⟨uK BK973⟩,⟨uB HB⟩⟩
  case round=>
   clear H'
   try clear c1
   try clear p2
   try clear c4
   try clear p6
   try clear c8
   try clear hcz7_0
   try clear hcz9_0
   try clear hfz7_0
   try clear hfz9_0
   obtain ⟨x6_1,x7_1,rfl,HA,HK1,HO_6,BK973,HB⟩:=hrel;cases gk with
   |zero=>exact absurd HA.out (by simp [Qb3.l0])
   |succ k1=>
    have H:=HA.out;clear HA;simp only [Qb3.l0] at H
    by_cases c12:x7_1 ≥ 0
    ·
     rw [if_pos c12] at H;have c12b0:=decide_eq_true c12;clear c12
     by_cases c13:x6_1.length<17592186044416
     ·
      rw [if_pos c13] at H;have LMc13:=Aside0.mk c13;clear c13;obtain ⟨y978,hy978⟩: ∃ y_:List Int,y_=(x6_1++ [x7_1]):=⟨_,rfl⟩
      replace H:(Qb3.l0 k1 a1 y978 (wrap64 (x7_1 - 1)) l0_0)=some (r1,r2):=by first|(rw [hy978];with_reducible exact H)|(have H2_:=(Option.bind_some _ _).symm.trans H;rw [hy978];with_reducible exact H2_)|(have H2_:=(Option.bind_some _ _).symm.trans H;with_reducible exact H2_)|with_reducible exact H|(rw [hy978];exact H)|exact H
      have Ny978:=Aside0.mk hy978;clear hy978;have H':=Aside0.mk H;clear H;go_wp2_with (first|((with_reducible refine Qcj (b:= .append) (xs:= #[.tmp 20, .tmp 22]) rfl ?_);at_builtin;refine Kd.R_append (Kd.int .i64) (w0:=w) w.heap.size rfl (.tmp 20) (.tmp 22) 24 3 (.int .i64 0) 8 rfl Tryz.underlying24 Qeo rfl (by decide) (by omega) u6 x6_1 x7_1 [.int .i64 x7_1] (fun _=>True) (fun _=>False) rfl rfl ?aP (fun _ hk=>hk.elim) ?aF ?aO ?aB ?aS ?aL ?_;(case aP=>exact rfl);(case aB=>exact (uB HB));(case aF=>exact (fun _ _=>trivial));(case aO=>exact (uR HO_6));(case aS=>exact (Qj (uB HB)));(case aL=>have:=LMc13.out;omega);intro v979 w14 ho hb hg hat;rw [←Ny978.out] at ho;replace BK973:=Aside0.mk (Qdi (uK BK973) hg (Kd.R_ne HO_6.out BK973.out (by decide)));replace HB:=Aside0.mk (hb);have HO980:=Aside0.mk (ho);clear HO_6;clear ho hb hg hat));go_roundg k1
      case measure=>have:=HK1.out;omega
      case rel=>exact ⟨(y978),(wrap64 (x7_1 - 1)),(by first|rfl|(simp;done)|(simp [*];done)),H',⟨by have:=HK1.out;omega⟩,⟨uR HO980⟩,⟨uK BK973⟩,⟨uB HB⟩⟩
     ·
      rw [if_neg c13] at H;exact absurd H (by simp)
    ·
     rw [if_neg c12] at H;have c12b0:=decide_eq_false c12;clear c12;obtain ⟨t981,A15,H⟩:=bs H;(try dsimp only at H)
     simp only [Option.some.injEq,Prod.mk.injEq] at H;obtain ⟨rfl,rfl⟩:=H;have hcz16_0:=bC BK973;have hfz16_0:=Qf BK973.out 0;obtain ⟨Ao17,co17,eo17⟩:=Kd.R_slice HO_6.out;subst eo17;go_wp2_with (first|(refine gA (some 27) Tryz.func153 #[.agg #[.slice A0_0 l0_0.length c0_0], .int .i64 a1, .slice Ao17 x6_1.length co17] ?_;(with_reducible refine (Qbv.calls k1 _ _ l0_0 a1 _ _ x6_1 t981 _ (uD HR0_0 HB) HC0_0.out (uE HO_6) ?side4 A15.out).mono ?_);(case side4=>exact (Kd.R_reads' HO_6.out).2.1);rintro e w18 ⟨rfl,hb⟩;refine ⟨_,rfl,?_⟩;replace HO_6:=Aside0.mk (Kd.R_below (uR HO_6) hb);replace BK973:=Aside0.mk (Qc (uK BK973) hb);replace HB:=Aside0.mk (Qb (uB HB) hb);(try clear hb)))
     go_ret2
     exact ⟨by first|rfl|(simp [Qd,Qe] <;>rfl)|(simp [*,Qd,Qe] <;>rfl),uB HB⟩
 ·
  replace c4:=Bool.eq_false_iff.mpr c4;subst c4;rw [if_neg (show ¬ (false=true) by decide)] at H;simp only [Option.some.injEq,Prod.mk.injEq] at H;obtain ⟨rfl,rfl⟩:=H;go_enter Tryz.func80,Tryz.ntmps80;go_wp2_with (first|(refine bE (N:=2) (cs:= #[.slice A0_0 l0_0.length c0_0]) (t:=26) ?_;intro gb973 hg w19 hbox hb;have BK973:=Aside0.mk (hbox);have GW973:=Aside0.mk ((gV hg (uB HB)));have GE973:=GW973;replace HB:=Aside0.mk (Qb (uB HB) hb);clear hb hbox hg;have hcz20_0:=bC BK973;have hfz20_0:=Qf BK973.out 0)|(refine gA (some 10) Tryz.func152 #[.agg #[.slice A0_0 l0_0.length c0_0], .int .i64 a1] ?_;(with_reducible refine (Qcl.calls k _ _ l0_0 a1 false _ (uD HR0_0 HB) HC0_0.out A3.out).mono ?_);rintro e w21 ⟨rfl,hb⟩;refine ⟨_,rfl,?_⟩;replace BK973:=Aside0.mk (Qc (uK BK973) hb);replace HB:=Aside0.mk (Qb (uB HB) hb);(try clear hb)))
  go_ret2
  exact ⟨by first|rfl|(simp [Qd,Qe] <;>rfl)|(simp [*,Qd,Qe] <;>rfl),uB HB⟩
def Qd8.f (k : Nat) (l0_0 : List Int) : Option (List Int × Bool) := (Qbj.f k l0_0).bind fun t983 => (if t983 = true then ((Qq.f k l0_0).bind fun t984 => (some (t984, true))) else (some (([] : List Int), false)))
theorem Qd8.mono : ∀ a0 k, LeO (Qd8.f k a0) (Qd8.f (k + 1) a0) := by
 intro a0 k;unfold Qd8.f
 repeat' (with_reducible first|apply Qbj.mono|apply Qq.mono|exact LeO.refl _|exact LeO.none _|refine LeO.ite ?_ ?_|refine LeO.bind ?_ (fun _=> ?_))
set_option maxHeartbeats 8000000 in
set_option maxRecDepth 100000 in
theorem Qd8.calls (k : Nat) (A0_0 : Option Addr) (c0_0 : Nat) (l0_0 : List Int) (r1 : List Int) (r2 : Bool) (w : World) (hr0_0 : Kd.C (Kd.int .i64) w A0_0 l0_0.length l0_0) (hc0_0 : l0_0.length ≤ c0_0) (h : Qd8.f k l0_0 = some (r1, r2)) :
 Calls Tryz.prog 81 #[.agg #[.slice A0_0 l0_0.length c0_0]] w fun e w'=> ∃ v0_:Value,e= .returned (.tuple #[v0_, .bool r2])∧Kd.R (Kd.int .i64) 3 w' w.heap.size (fun _=>True) v0_ r1∧Below w.heap.size w w':=by
 have hu26:=Tryz.underlying26;have HR0_0:=Aside0.mk hr0_0;have HC0_0:=Aside0.mk hc0_0;clear hr0_0 hc0_0;have HB:=Aside0.mk (Below.refl w.heap.size w);have H:((Qbj.f k l0_0).bind fun t983=>(if t983=true then ((Qq.f k l0_0).bind fun t984=>(some (t984,true))) else (some (([] :List Int),false))))=some (r1,r2):=h;clear h;obtain ⟨t983,A2,H⟩:=bs H;(try dsimp only at H)
 by_cases c3:t983=true
 ·
  subst c3;rw [if_pos rfl] at H;obtain ⟨t984,A4,H⟩:=bs H;(try dsimp only at H)
  simp only [Option.some.injEq,Prod.mk.injEq] at H;obtain ⟨rfl,rfl⟩:=H;go_enter Tryz.func81,Tryz.ntmps81;go_wp2_with (first|(refine bE (N:=1) (cs:= #[.slice A0_0 l0_0.length c0_0]) (t:=26) ?_;intro gb982 hg w5 hbox hb;have BK982:=Aside0.mk (hbox);have GW982:=Aside0.mk ((gV hg (uB HB)));have GE982:=GW982;replace HB:=Aside0.mk (Qb (uB HB) hb);clear hb hbox hg;have hcz6_0:=bC BK982;have hfz6_0:=Qf BK982.out 0)|(refine gA (some 5) Tryz.func178 #[.agg #[.slice A0_0 l0_0.length c0_0]] ?_;(with_reducible refine (Qbj.calls k _ _ l0_0 true _ (uD HR0_0 HB) HC0_0.out A2.out).mono ?_);rintro e w7 ⟨rfl,hb⟩;refine ⟨_,rfl,?_⟩;replace BK982:=Aside0.mk (Qc (uK BK982) hb);replace HB:=Aside0.mk (Qb (uB HB) hb);(try clear hb);have hcz8_0:=bC BK982;have hfz8_0:=Qf BK982.out 0)|(refine gA (some 8) Tryz.func236 #[.agg #[.slice A0_0 l0_0.length c0_0]] ?_;(with_reducible refine (Qq.calls k _ _ l0_0 t984 _ (uD HR0_0 HB) HC0_0.out A4.out).mono ?_);rintro e w9 ⟨v985,rfl,ho0,hb⟩;refine ⟨_,rfl,?_⟩;have HO986:=Aside0.mk (Kd.R_lower ho0 (Qj (uB HB)));replace BK982:=Aside0.mk (Qc (uK BK982) hb);replace HB:=Aside0.mk (Qb (uB HB) hb);(try clear hb ho0)))
  go_ret2
  exact ⟨_,by first|rfl|(simp [Qd,Qe] <;>rfl)|(simp [*,Qd,Qe] <;>rfl),uR HO986,uB HB⟩
 ·
  replace c3:=Bool.eq_false_iff.mpr c3;subst c3;rw [if_neg (show ¬ (false=true) by decide)] at H;simp only [Option.some.injEq,Prod.mk.injEq] at H;obtain ⟨rfl,rfl⟩:=H;go_enter Tryz.func81,Tryz.ntmps81;go_wp2_with (first|(refine bE (N:=1) (cs:= #[.slice A0_0 l0_0.length c0_0]) (t:=26) ?_;intro gb982 hg w10 hbox hb;have BK982:=Aside0.mk (hbox);have GW982:=Aside0.mk ((gV hg (uB HB)));have GE982:=GW982;replace HB:=Aside0.mk (Qb (uB HB) hb);clear hb hbox hg;have hcz11_0:=bC BK982;have hfz11_0:=Qf BK982.out 0)|(refine gA (some 5) Tryz.func178 #[.agg #[.slice A0_0 l0_0.length c0_0]] ?_;(with_reducible refine (Qbj.calls k _ _ l0_0 false _ (uD HR0_0 HB) HC0_0.out A2.out).mono ?_);rintro e w12 ⟨rfl,hb⟩;refine ⟨_,rfl,?_⟩;replace BK982:=Aside0.mk (Qc (uK BK982) hb);replace HB:=Aside0.mk (Qb (uB HB) hb);(try clear hb)))
  go_ret2
  exact ⟨_,by first|rfl|(simp [Qd,Qe] <;>rfl)|(simp [*,Qd,Qe] <;>rfl),by first|exact Kd.R_nil _ _ _ _ _|exact Kd.N_nil _ _ _ _ _|exact Kd.V_nil _ _ _ _ _|exact Kd.Q_nil _ _ _ _ _|exact Kd.S_nil _ _ _ _ _,uB HB⟩
def Qc9.f (k : Nat) (l0_0 : List Int) (a1 : Int) (a2 : Int) : Option (Int × Bool) := (Qbz.f k l0_0 a1 (([a2] : List Int))).bind fun bt991 => (some (bt991.1, bt991.2))
theorem Qc9.mono : ∀ a0 a1 a2 k, LeO (Qc9.f k a0 a1 a2) (Qc9.f (k + 1) a0 a1 a2) := by
 intro a0 a1 a2 k;unfold Qc9.f
 repeat' (with_reducible first|apply Qbz.mono|exact LeO.refl _|exact LeO.none _|refine LeO.ite ?_ ?_|refine LeO.bind ?_ (fun _=> ?_))
set_option maxHeartbeats 8000000 in
set_option maxRecDepth 100000 in
theorem Qc9.calls (k : Nat) (A0_0 : Option Addr) (c0_0 : Nat) (l0_0 : List Int) (a1 : Int) (a2 : Int) (r1 : Int) (r2 : Bool) (w : World) (hr0_0 : Kd.C (Kd.int .i64) w A0_0 l0_0.length l0_0) (hc0_0 : l0_0.length ≤ c0_0) (h : Qc9.f k l0_0 a1 a2 = some (r1, r2)) :
 Calls Tryz.prog 82 #[.agg #[.slice A0_0 l0_0.length c0_0], .int .i64 a1, .int .i64 a2] w fun e w'=>e= .returned (.tuple #[.int .i64 r1, .bool r2])∧Below w.heap.size w w':=by
 have hu26:=Tryz.underlying26;have HR0_0:=Aside0.mk hr0_0;have HC0_0:=Aside0.mk hc0_0;clear hr0_0 hc0_0;have HB:=Aside0.mk (Below.refl w.heap.size w);have H:((Qbz.f k l0_0 a1 (([a2] :List Int))).bind fun bt991=>(some (bt991.1,bt991.2)))=some (r1,r2):=h;clear h;obtain ⟨y988,hy988⟩: ∃ y_:List Int,y_=(([a2] :List Int)):=⟨_,rfl⟩
 replace H:((Qbz.f k l0_0 a1 y988).bind fun bt991=>(some (bt991.1,bt991.2)))=some (r1,r2):=by first|(rw [hy988];with_reducible exact H)|(have H2_:=(Option.bind_some _ _).symm.trans H;rw [hy988];with_reducible exact H2_)|(have H2_:=(Option.bind_some _ _).symm.trans H;with_reducible exact H2_)|with_reducible exact H|(rw [hy988];exact H)|exact H
 have Ny988:=Aside0.mk hy988;clear hy988;obtain ⟨⟨t991,t992⟩,A4,H⟩:=bs H;(try dsimp only at H)
 simp only [Option.some.injEq,Prod.mk.injEq] at H;obtain ⟨rfl,rfl⟩:=H;go_enter Tryz.func82,Tryz.ntmps82;go_wp2_with (first|(refine bE (N:=3) (cs:= #[.slice A0_0 l0_0.length c0_0]) (t:=26) ?_;intro gb987 hg w5 hbox hb;have BK987:=Aside0.mk (hbox);have GW987:=Aside0.mk ((gV hg (uB HB)));have GE987:=GW987;replace HB:=Aside0.mk (Qb (uB HB) hb);clear hb hbox hg;have hcz6_0:=bC BK987;have hfz6_0:=Qf BK987.out 0)|((with_reducible refine Qb9 (N:=11) rfl ?_);refine Kd.R_lit (Kd.int .i64) _ 3 ?hg (N:=11) ?hd (xs:=([a2] :List Int)) (inner:= [.int .i64 a2]) (ok:=fun _=>True) (okp:=fun _=>True) ?hr ?hp (fun _ hk=>hk) trivial (Below.refl _ _) (Nat.le_refl _) (by simp) ?_;(case hd=>rfl);(case hg=>rfl);(case hr=>first|(go_simp;done)|(go_simp;rfl));(case hp=>exact (Reps.one (show Kd.M (Kd.int .i64) _ _ _ a2 [.int .i64 a2] from rfl) (Reps.none _ _)));intro v989 w7 ho8 hb hg_ hnew_;clear hg_ hnew_;(first|rw [←Ny988.out] at ho8|(simp only [Int.reduceToNat] at ho8;rw [←Ny988.out] at ho8));have HO990:=Aside0.mk (Kd.R_lower ho8 (Qj (uB HB)));replace BK987:=Aside0.mk (Qc (uK BK987) hb);replace HB:=Aside0.mk (Qb (uB HB) hb);clear hb ho8;obtain ⟨Ao9,co9,eo9⟩:=Kd.R_slice HO990.out;subst eo9)|(refine gA (some 12) Tryz.func23 #[.agg #[.slice A0_0 l0_0.length c0_0], .int .i64 a1, .slice Ao9 y988.length co9] ?_;(with_reducible refine (Qbz.calls k _ _ l0_0 a1 _ _ y988 t991 t992 _ (uD HR0_0 HB) HC0_0.out (uE HO990) ?side4 A4.out).mono ?_);(case side4=>exact (Kd.R_reads' HO990.out).2.1);rintro e w10 ⟨rfl,hb⟩;refine ⟨_,rfl,?_⟩;replace HO990:=Aside0.mk (Kd.R_below (uR HO990) hb);replace BK987:=Aside0.mk (Qc (uK BK987) hb);replace HB:=Aside0.mk (Qb (uB HB) hb);(try clear hb)))
 go_ret2
 exact ⟨by first|rfl|(simp [Qd,Qe] <;>rfl)|(simp [*,Qd,Qe] <;>rfl),uB HB⟩
end Go.Proofs.YtkgngggppcmpfaaGreat.L
end
section
namespace Go.Proofs.YtkgngggppcmpfaaGreat.L
open Go.RowKit Go.Proofs.YtkgngggppcmpfaaGreatW.PrintWords Go.Proofs.YtkgngggppcmpfaaGreatW.PrintLast Go.Proofs.YtkgngggppcmpfaaGreatW.PrintMore
attribute [local go_sem] Q2 Q4 Qbb Qbc Qt Qu Q3 Q5
set_option linter.unusedVariables false
set_option linter.unusedSimpArgs false
def Qcc.f (k : Nat) (l0 : List Int) : Option (List Int × Int × Int) := (Qv.f k l0 0 0 10).bind fun bt995 => ((Qce.f l0 bt995.2.2.1 bt995.2.2.2 (([0, 1, 2, 3, 5, 10, (-1)] : List Int))).bind fun bt1005 => (some (bt995.1, bt995.2.1, bt1005.1)))
theorem Qcc.mono : ∀ a0 k, LeO (Qcc.f k a0) (Qcc.f (k + 1) a0) := by
 intro a0 k;unfold Qcc.f
 repeat' (with_reducible first|apply Qv.mono|exact LeO.refl _|exact LeO.none _|refine LeO.ite ?_ ?_|refine LeO.bind ?_ (fun _=> ?_))
def Qcc.T3 : Bool × List (List Nat × List Nat) := (true, [([], []), ([], []), ([], []), ([], []), ([2, 3], [2, 3]), ([0, 4, 0], [0]), ([1, 5, 0, 1, 5], [1]), ([4, 6, 0, 1, 2, 3, 4, 5, 6], [4])])
def Qcc.B3 : List Nat := [0, 0, 0, 0, 12, 29, 63, 127]
theorem Qcc.tab3 : rtab .any (Qfj Tryz.f83 3) = Qcc.T3 := by kernel_rfl
theorem Qcc.bits3 : Qea Qcc.T3.2 Qcc.B3 = true := by kernel_rfl
set_option maxHeartbeats 8000000 in
set_option maxRecDepth 100000 in
theorem Qcc.calls (k : Nat) (A0 : Option Addr) (c0 : Nat) (l0 : List Int) (r1 : List Int) (r2 : Int) (r3 : Int) (w : World) (hr0 : Kd.C (Kd.int .u8) w A0 l0.length l0) (hc0 : l0.length ≤ c0) (h : Qcc.f k l0 = some (r1, r2, r3)) :
 Calls Tryz.prog 83 #[.slice A0 l0.length c0] w fun e w'=> ∃ v0_:Value,e= .returned (.tuple #[.agg #[v0_], .int .i64 r2, .int .i64 r3])∧Kd.R (Kd.int .i64) 3 w' w.heap.size (fun _=>True) v0_ r1∧Below w.heap.size w w':=by
 have hu26:=Tryz.underlying26;have hu94:=Tryz.underlying94;have HR0:=Aside0.mk hr0;have HC0:=Aside0.mk hc0;clear hr0 hc0;have HB:=Aside0.mk (Below.refl w.heap.size w);have H:((Qv.f k l0 0 0 10).bind fun bt995=>((Qce.f l0 bt995.2.2.1 bt995.2.2.2 (([0,1,2,3,5,10,(-1)] :List Int))).bind fun bt1005=>(some (bt995.1,bt995.2.1,bt1005.1))))=some (r1,r2,r3):=h;clear h;replace H:=Option.bind_eq_some_iff.mp H;obtain ⟨⟨t995,t998,t999,t1000⟩,A20,H⟩:=H;replace H:((Qce.f l0 t999 t1000 (([0,1,2,3,5,10,(-1)] :List Int))).bind fun bt1005=>(some (t995,t998,bt1005.1)))=some (r1,r2,r3):=H;have A2:=Aside0.mk A20;clear A20;obtain ⟨y1002,hy1002⟩: ∃ y_:List Int,y_=(([0,1,2,3,5,10,(-1)] :List Int)):=⟨_,rfl⟩
 replace H:((Qce.f l0 t999 t1000 y1002).bind fun bt1005=>(some (t995,t998,bt1005.1)))=some (r1,r2,r3):=by first|(rw [hy1002];with_reducible exact H)|(have H2_:=(Option.bind_some _ _).symm.trans H;rw [hy1002];with_reducible exact H2_)|(have H2_:=(Option.bind_some _ _).symm.trans H;with_reducible exact H2_)|with_reducible exact H|(rw [hy1002];exact H)|exact H
 have Ny1002:=Aside0.mk hy1002;clear hy1002;replace H:=Option.bind_eq_some_iff.mp H;obtain ⟨⟨t1005,t1006,t1007⟩,A30,H⟩:=H;replace H:(some (t995,t998,t1005))=some (r1,r2,r3):=H;have A3:=Aside0.mk A30;clear A30;simp only [Option.some.injEq,Prod.mk.injEq] at H;obtain ⟨rfl,rfl,rfl⟩:=H;go_enter Tryz.func83,Tryz.ntmps83
 try go_wp2_with (first|((with_reducible refine Qb9 (N:=2) rfl ?_);refine Qes ?hg (N:=2) ?hd (cs:= #[.slice none 0 0]) (t:=26) ?hr ?_;(case hd=>rfl);(case hg=>rfl);(case hr=>first|(go_simp;done)|(go_simp;rfl));intro gb993 hg w4 hbox hb;have BK993:=Aside0.mk (hbox);have GW993:=Aside0.mk ((by rw [hg];exact (Qj (by repeat (first|(with_reducible first|exact HB.out|apply Qk|apply Qi|apply Qo)|exact HB.out))):w.heap.size≤gb993));have GE993:=GW993;replace HB:=Aside0.mk (Qb (by repeat (first|(with_reducible first|exact HB.out|apply Qk|apply Qi|apply Qo)|exact HB.out)) hb);clear hb hbox hg)|((with_reducible refine Qb9 (N:=10) rfl ?_);refine Qes ?hg (N:=10) ?hd (cs:= #[.slice A0 l0.length c0, .int .i64 0, .int .u64 0]) (t:=94) ?hr ?_;(case hd=>rfl);(case hg=>rfl);(case hr=>first|(go_simp;done)|(go_simp;rfl));intro gb994 hg w5 hbox hb;have HI994:=Aside0.mk ((⟨_,_,hbox,(by rw [hg];exact (Qj (by repeat (first|(with_reducible first|exact HB.out|apply Qk|apply Qi|apply Qo|refine Qx ?_ GE993.out)|exact HB.out))):w.heap.size≤gb994),HR0.out⟩:Qa w _ gb994 l0 0 0));have GW994:=Aside0.mk ((by rw [hg];exact (Qj (by repeat (first|(with_reducible first|exact HB.out|apply Qk|apply Qi|apply Qo|refine Qx ?_ GE993.out)|exact HB.out))):w.heap.size≤gb994));have GE994:=GW994;replace HB:=Aside0.mk (Qb (by repeat (first|(with_reducible first|exact HB.out|apply Qk|apply Qi|apply Qo|refine Qx ?_ GE993.out)|exact HB.out)) hb);have NB993_994:=Aside0.mk ((by rw [hg];exact Nat.ne_of_lt (Qb6 (g:=gb993) (o:= .cells #[.slice none 0 0] 26 (0,0)) (by (with_reducible repeat (first|refine Qn ?_ _|refine Ql ?_|refine Qm ?_ _));exact BK993.out)):gb993≠gb994));have NB994_993:=Aside0.mk ((by rw [hg];exact Nat.ne_of_gt (Qb6 (g:=gb993) (o:= .cells #[.slice none 0 0] 26 (0,0)) (by (with_reducible repeat (first|refine Qn ?_ _|refine Ql ?_|refine Qm ?_ _));exact BK993.out)):gb994≠gb993));replace BK993:=Aside0.mk (Qc (g:=gb993) (o:= .cells #[.slice none 0 0] 26 (0,0)) (by (with_reducible repeat (first|refine Qn ?_ _|refine Ql ?_|refine Qm ?_ _));exact BK993.out) hb);clear hb hbox hg)|((with_reducible refine Qdr (f:=234) rfl ?_);refine Qe2 (some 13) rfl rfl Tryz.func234 (by kernel_rfl) rfl #[.pointer (some ⟨gb994,0,none⟩), .int .i64 10] rfl (by (try simp only [List.map_toArray,List.map_cons,List.map_nil]);first|done|rfl|(simp only [List.length_drop,List.length_take];rfl)) ?_;(with_reducible refine (Qv.calls k gb994 l0 0 0 10 t995 t998 t999 t1000 w _ ?side1 ?side2 A2.out).mono ?_);(case side1=>repeat (first|(with_reducible first|exact HI994.out|apply Qa.alloc|apply Qa.drewN|apply Qa.drew|apply Qa.set_1|apply Qa.set_2|refine Qa.far ?_ NB994_993.out _)|exact HI994.out));(case side2=>repeat (first|(with_reducible first|exact HB.out|apply Qk|apply Qi|apply Qo|refine Qx ?_ (Qa.ge HI994.out)|refine Qx ?_ GE993.out)|exact HB.out));rintro e w6 ⟨v996,rfl,ho0,hi,hb,hk⟩;refine ⟨_,rfl,?_⟩;replace BK993:=Aside0.mk (Qg.blk hk (g':=gb993) (o:= .cells #[.slice none 0 0] 26 (0,0)) (by (with_reducible repeat (first|refine Qn ?_ _|refine Ql ?_|refine Qm ?_ _));exact BK993.out) NB993_994.out (by simp));have HO997:=Aside0.mk (Kd.R_lower ho0 (Qj (by repeat (first|(with_reducible first|exact HB.out|apply Qk|apply Qi|apply Qo|refine Qx ?_ (Qa.ge HI994.out)|refine Qx ?_ GE993.out)|exact HB.out))));replace HB:=Aside0.mk (hb);replace HI994:=Aside0.mk (hi);(try clear hb);(try clear hb2);(try clear hk);(try clear hi);(try clear ho0))|((with_reducible refine Qb9 (N:=6) rfl ?_);refine Qes ?hg (N:=6) ?hd (cs:= #[.slice none 0 0]) (t:=26) ?hr ?_;(case hd=>rfl);(case hg=>rfl);(case hr=>first|(go_simp;done)|(go_simp;rfl));intro gb1001 hg w7 hbox hb;replace HO997:=Aside0.mk (Kd.R_below (by (with_reducible repeat (first|apply Kd.R_alloc|apply Kd.R_drewN|apply Kd.R_drew));exact HO997.out) hb);have BK1001:=Aside0.mk (hbox);have GW1001:=Aside0.mk ((by rw [hg];exact (Qj (by repeat (first|(with_reducible first|exact HB.out|apply Qk|apply Qi|apply Qo|refine Qx ?_ (Qa.ge HI994.out)|refine Qx ?_ GE993.out)|exact HB.out))):w.heap.size≤gb1001));have GE1001:=GW1001;replace HB:=Aside0.mk (Qb (by repeat (first|(with_reducible first|exact HB.out|apply Qk|apply Qi|apply Qo|refine Qx ?_ (Qa.ge HI994.out)|refine Qx ?_ GE993.out)|exact HB.out)) hb);have NB993_1001:=Aside0.mk ((by rw [hg];exact Nat.ne_of_lt (Qb6 (g:=gb993) (o:= .cells #[.slice none 0 0] 26 (0,0)) (by (with_reducible repeat (first|refine Qn ?_ _|refine Ql ?_|refine Qm ?_ _));exact BK993.out)):gb993≠gb1001));have NB1001_993:=Aside0.mk ((by rw [hg];exact Nat.ne_of_gt (Qb6 (g:=gb993) (o:= .cells #[.slice none 0 0] 26 (0,0)) (by (with_reducible repeat (first|refine Qn ?_ _|refine Ql ?_|refine Qm ?_ _));exact BK993.out)):gb1001≠gb993));replace BK993:=Aside0.mk (Qc (g:=gb993) (o:= .cells #[.slice none 0 0] 26 (0,0)) (by (with_reducible repeat (first|refine Qn ?_ _|refine Ql ?_|refine Qm ?_ _));exact BK993.out) hb);have NB994_1001:=Aside0.mk ((by rw [hg];exact Nat.ne_of_lt (Qa.lt (show Qa w _ gb994 l0 t999 t1000 from by repeat (first|(with_reducible first|exact HI994.out|apply Qa.alloc|apply Qa.drewN|apply Qa.drew|apply Qa.set_1|apply Qa.set_2|refine Qa.far ?_ NB994_993.out _)|exact HI994.out))):gb994≠gb1001));have NB1001_994:=Aside0.mk ((by rw [hg];exact Nat.ne_of_gt (Qa.lt (show Qa w _ gb994 l0 t999 t1000 from by repeat (first|(with_reducible first|exact HI994.out|apply Qa.alloc|apply Qa.drewN|apply Qa.drew|apply Qa.set_1|apply Qa.set_2|refine Qa.far ?_ NB994_993.out _)|exact HI994.out))):gb1001≠gb994));replace HI994:=Aside0.mk (Qa.below (by repeat (first|(with_reducible first|exact HI994.out|apply Qa.alloc|apply Qa.drewN|apply Qa.drew|apply Qa.set_1|apply Qa.set_2|refine Qa.far ?_ NB994_993.out _)|exact HI994.out)) hb);clear hb hbox hg;obtain ⟨Ao8,co8,eo8⟩:=Kd.R_slice HO997.out;subst eo8;have hnb9:=NB1001_993.out;have hnc9:=NB993_1001.out;have hnb10:=NB1001_994.out;have hnc10:=NB994_1001.out;have hcz11_0:w7.cell? ⟨gb1001,0,none⟩=some (.slice none 0 0):=(Qcg BK1001.out 0).trans rfl;have hfz11_0:=Qf BK1001.out 0))
 have n0_:Aside0 (Kd.R (Kd.int .i64) 3 (w7.setCell ⟨gb1001,0,none⟩ (.slice Ao8 t995.length co8)) w.heap.size (fun _=>True) (.slice Ao8 t995.length co8) t995):=⟨by (with_reducible repeat (first|apply Kd.R_alloc|apply Kd.R_drewN|apply Kd.R_drew));exact Kd.R_mono (Kd.R_far (p:=⟨gb1001,0,none⟩) (Kd.R_types HO997.out BK1001.out (by decide)) (fun _ hk=>hk.2) (.slice Ao8 t995.length co8)) (fun _ hk=>trivial)⟩
 have n1_:Aside0 ((w7.setCell ⟨gb1001,0,none⟩ (.slice Ao8 t995.length co8)).heap[gb993]? =some (.cells #[.slice none 0 0] 26 (0,0))):=⟨by (with_reducible repeat (first|refine Qn ?_ _|refine Ql ?_|refine Qm ?_ _));refine Qei ?_ NB993_1001.out _;(with_reducible repeat (first|refine Qn ?_ _|refine Ql ?_|refine Qm ?_ _));exact BK993.out⟩
 have n2_:Aside0 ((w7.setCell ⟨gb1001,0,none⟩ (.slice Ao8 t995.length co8)).heap[gb1001]? =some (.cells #[.slice Ao8 t995.length co8] 26 (0,0))):=⟨by (with_reducible repeat (first|refine Qn ?_ _|refine Ql ?_|refine Qm ?_ _));refine Qcw (cs:= #[.slice none 0 0]) ?_ 0 _ rfl;(with_reducible repeat (first|refine Qn ?_ _|refine Ql ?_|refine Qm ?_ _));exact BK1001.out⟩
 have n3_:Aside0 (Qa w (w7.setCell ⟨gb1001,0,none⟩ (.slice Ao8 t995.length co8)) gb994 l0 t999 t1000):=⟨by repeat (first|(with_reducible first|exact HI994.out|apply Qa.alloc|apply Qa.drewN|apply Qa.drew|apply Qa.set_1|apply Qa.set_2|refine Qa.far ?_ NB994_993.out _|refine Qa.far ?_ NB994_1001.out _)|exact HI994.out)⟩
 have n4_:Aside0 (Below w.heap.size w (w7.setCell ⟨gb1001,0,none⟩ (.slice Ao8 t995.length co8))):=⟨by repeat (first|(with_reducible first|exact HB.out|apply Qk|apply Qi|apply Qo|refine Qx ?_ (Qa.ge HI994.out)|refine Qx ?_ GE993.out|refine Qx ?_ GE1001.out)|exact HB.out)⟩
 (try clear HO997)
 (try clear BK993)
 (try clear BK1001)
 (try clear HI994)
 (try clear HB)
 generalize (w7.setCell ⟨gb1001,0,none⟩ (.slice Ao8 t995.length co8))=w12 at n0_ n1_ n2_ n3_ n4_ ⊢;have HO997:=n0_;have BK993:=n1_;have BK1001:=n2_;have HI994:=n3_;have HB:=n4_;clear n0_ n1_ n2_ n3_ n4_;replace HO997:=Aside0.mk (Kd.R_drew HO997.out);replace BK993:=Aside0.mk (Ql BK993.out);replace BK1001:=Aside0.mk (Ql BK1001.out);replace HI994:=Aside0.mk (Qa.drew HI994.out);replace HB:=Aside0.mk (Qo HB.out);refine start_ (n:=8) (S:=fun w'=>w'.cell? ⟨gb1001,0,none⟩=some (.slice Ao8 t995.length co8)) (ds:= []) #[false,false,false,false,false,false,false,false] (by kernel_rfl) rfl rfl ((Qcg BK1001.out 0).trans rfl) (fun hHeld=> ?_);refine Qeb Qcc.tab3 Qcc.bits3 (fun HT_ HW_=> ?_);generalize w12.drew=w13 at HO997 BK993 BK1001 HI994 HB hHeld ⊢;refine Qkd (i:=1) (N:=some 17) (v:= ?_) (a':= ?_) #[false,true,false,false,false,false,false,false] rfl rfl (Qjj HT_.out (by kernel_rfl)) (fun _ _ _ h=>h) (Or.inl ⟨by rfl,?_⟩) ?_ ?_;rotate_left
 ·
  intro w';go_simp
  with_reducible rfl
 rotate_left
 ·
  simp only [Act.put,List.setIfInBounds_toArray,List.set_cons_zero,List.set_cons_succ,Qcq,Qd6];rfl
 refine Qkd (i:=2) (N:=some 18) (v:= ?_) (a':= ?_) #[false,true,true,false,false,false,false,false] rfl rfl (Qjj HT_.out (by kernel_rfl)) (fun _ _ _ h=>h) (Or.inl ⟨by rfl,?_⟩) ?_ ?_;rotate_left
 ·
  intro w';go_simp
  with_reducible rfl
 rotate_left
 ·
  simp only [Act.put,List.setIfInBounds_toArray,List.set_cons_zero,List.set_cons_succ,Qcq,Qd6];rfl
 refine take_ (i:=0) (N:=some 16) (v:= ?_) (a':= ?_) #[true,true,true,false,false,false,false,false] rfl rfl (Qfo HT_.out HW_.out (by kernel_rfl)) (fun _ _ _ h=>h) (Or.inl ⟨by rfl,?_⟩) hHeld ?_ ?_;rotate_left
 ·
  intro w' s0;go_simp
  with_reducible rfl
 rotate_left
 ·
  simp only [Act.put,List.setIfInBounds_toArray,List.set_cons_zero,List.set_cons_succ,Qcq,Qd6];rfl
 refine one_ (i:=3) (N:=some 19) #[true,true,true,true,false,false,false,false] rfl rfl (Qjv HT_.out (by kernel_rfl)) (by decide) (fun K hK=> ?_);refine Kd.R_lit_step (Kd.int .i64) _ 3 ?hg (N:=19) ?hd (xs:=([0,1,2,3,5,10,(-1)] :List Int)) (inner:= [.int .i64 0, .int .i64 1, .int .i64 2, .int .i64 3, .int .i64 5, .int .i64 10, .int .i64 (-1)]) (ok:=fun _=>True) (okp:=fun _=>True) ?hr ?hp (fun _ hk=>hk) trivial (Below.refl _ _) (Nat.le_refl _) (by simp) ?_;(case hd=>rfl);(case hg=>rfl);(case hr=>first|(go_simp;done)|(go_simp;rfl));(case hp=>exact (Reps.one (show Kd.M (Kd.int .i64) _ _ _ 0 [.int .i64 0] from rfl) (Reps.one (show Kd.M (Kd.int .i64) _ _ _ 1 [.int .i64 1] from rfl) (Reps.one (show Kd.M (Kd.int .i64) _ _ _ 2 [.int .i64 2] from rfl) (Reps.one (show Kd.M (Kd.int .i64) _ _ _ 3 [.int .i64 3] from rfl) (Reps.one (show Kd.M (Kd.int .i64) _ _ _ 5 [.int .i64 5] from rfl) (Reps.one (show Kd.M (Kd.int .i64) _ _ _ 10 [.int .i64 10] from rfl) (Reps.one (show Kd.M (Kd.int .i64) _ _ _ (-1) [.int .i64 (-1)] from rfl) (Reps.none _ _)))))))))
 intro v1003 w14 ho15 hb hg_ hnew_;clear hg_ hnew_
 (first|rw [←Ny1002.out] at ho15|(simp only [Int.reduceToNat] at ho15;rw [←Ny1002.out] at ho15))
 have HO1004:=Aside0.mk (Kd.R_lower (Kd.R_new' ho15 (Kd.R_lt (by (with_reducible repeat (first|apply Kd.R_alloc|apply Kd.R_drewN|apply Kd.R_drew));exact HO997.out))) (Qj (by repeat (first|(with_reducible first|exact HB.out|apply Qk|apply Qi|apply Qo|refine Qx ?_ (Qa.ge HI994.out)|refine Qx ?_ GE993.out|refine Qx ?_ GE1001.out)|exact HB.out))));replace HO997:=Aside0.mk (Kd.R_elder' (by (with_reducible repeat (first|apply Kd.R_alloc|apply Kd.R_drewN|apply Kd.R_drew));exact HO997.out) (Kd.R_base ho15) hb);replace BK993:=Aside0.mk (Qc (g:=gb993) (o:= .cells #[.slice none 0 0] 26 (0,0)) (by (with_reducible repeat (first|refine Qn ?_ _|refine Ql ?_|refine Qm ?_ _));exact BK993.out) hb);replace BK1001:=Aside0.mk (Qc (g:=gb1001) (o:= .cells #[.slice Ao8 t995.length co8] 26 (0,0)) (by (with_reducible repeat (first|refine Qn ?_ _|refine Ql ?_|refine Qm ?_ _));exact BK1001.out) hb);replace HB:=Aside0.mk (Qb (by repeat (first|(with_reducible first|exact HB.out|apply Qk|apply Qi|apply Qo|refine Qx ?_ (Qa.ge HI994.out)|refine Qx ?_ GE993.out|refine Qx ?_ GE1001.out)|exact HB.out)) hb);replace HI994:=Aside0.mk (Qa.below (by repeat (first|(with_reducible first|exact HI994.out|apply Qa.alloc|apply Qa.drewN|apply Qa.drew|apply Qa.set_1|apply Qa.set_2|refine Qa.far ?_ NB994_993.out _|refine Qa.far ?_ NB994_1001.out _)|exact HI994.out)) hb);clear hb ho15;obtain ⟨Ao16,co16,eo16⟩:=Kd.R_slice HO1004.out
 (first|subst eo16|(injection eo16 with f1_ f2_ f3_;have f4_:=f1_.symm;have f5_:=f3_.symm;clear f1_ f2_ f3_;subst f4_;subst f5_))
 refine hK.out _ _ ((Qcg BK1001.out 0).trans rfl) (fun hHeld=> ?_);clear hK K;refine norm_ (a':= ?_) ?_ ?_;rotate_left
 ·
  show Act.put _ (some 19) _=_
  simp only [Act.put,List.setIfInBounds_toArray,List.set_cons_zero,List.set_cons_succ,Qcq,Qd6];rfl
 refine one_ (i:=4) (N:=some 20) #[true,true,true,true,true,false,false,false] rfl rfl (Qjv HT_.out (by kernel_rfl)) (by decide) (fun K hK=> ?_);refine Qe0 Tryz.func190 (by kernel_rfl) rfl #[.pointer (some ⟨gb994,0,none⟩), .slice Ao16 y1002.length co16] (by rfl) rfl rfl (by (try simp only [List.map_toArray,List.map_cons,List.map_nil]);first|done|rfl|(simp only [List.length_drop,List.length_take];rfl)) ?_
 with_reducible refine (Qce.calls gb994 l0 t999 t1000 _ _ y1002 t1005 t1006 t1007 w _ ?side1 ?side2 ?side3 ?side4 ?side5 A3.out).mono ?_
 (case side1=>repeat (first|(with_reducible first|exact HI994.out|apply Qa.alloc|apply Qa.drewN|apply Qa.drew|apply Qa.set_1|apply Qa.set_2|refine Qa.far ?_ NB994_993.out _|refine Qa.far ?_ NB994_1001.out _)|exact HI994.out))
 (case side2=>repeat (first|(with_reducible first|exact HB.out|apply Qk|apply Qi|apply Qo|refine Qx ?_ (Qa.ge HI994.out)|refine Qx ?_ GE993.out|refine Qx ?_ GE1001.out)|exact HB.out))
 (case side3=>repeat (first|exact (Kd.R_reads' HO1004.out).2.2|(with_reducible refine Kd.C_alloc ?_ _)|(with_reducible refine Kd.C_drewN ?_ _)|(with_reducible refine Kd.C_drew ?_)))
 (case side4=>exact (Kd.R_reads' HO1004.out).2.1)
 (case side5=>exact Qgb (Qa.own_ne HI994.out HO1004.out (by decide)))
 rintro e w17 ⟨rfl,hi,hb,hk⟩;refine ⟨_,rfl,?_⟩;replace BK993:=Aside0.mk (Qg.blk hk (g':=gb993) (o:= .cells #[.slice none 0 0] 26 (0,0)) (by (with_reducible repeat (first|refine Qn ?_ _|refine Ql ?_|refine Qm ?_ _));exact BK993.out) NB993_994.out (by simp));replace HO997:=Aside0.mk (Kd.R_mono (Kd.R_keep (Qa.apart (show Qa w _ gb994 l0 t999 t1000 from by repeat (first|(with_reducible first|exact HI994.out|apply Qa.alloc|apply Qa.drewN|apply Qa.drew|apply Qa.set_1|apply Qa.set_2|refine Qa.far ?_ NB994_993.out _|refine Qa.far ?_ NB994_1001.out _)|exact HI994.out)) (by (with_reducible repeat (first|apply Kd.R_alloc|apply Kd.R_drewN|apply Kd.R_drew));exact HO997.out) (by decide)) hk (fun _ h=>h.2)) (fun _ h=>h.1));replace BK1001:=Aside0.mk (Qg.blk hk (g':=gb1001) (o:= .cells #[.slice Ao8 t995.length co8] 26 (0,0)) (by (with_reducible repeat (first|refine Qn ?_ _|refine Ql ?_|refine Qm ?_ _));exact BK1001.out) NB1001_994.out (by simp));replace HO1004:=Aside0.mk (Kd.R_mono (Kd.R_keep (Qa.apart (show Qa w _ gb994 l0 t999 t1000 from by repeat (first|(with_reducible first|exact HI994.out|apply Qa.alloc|apply Qa.drewN|apply Qa.drew|apply Qa.set_1|apply Qa.set_2|refine Qa.far ?_ NB994_993.out _|refine Qa.far ?_ NB994_1001.out _)|exact HI994.out)) (by (with_reducible repeat (first|apply Kd.R_alloc|apply Kd.R_drewN|apply Kd.R_drew));exact HO1004.out) (by decide)) hk (fun _ h=>h.2)) (fun _ h=>h.1));replace HB:=Aside0.mk (hb);replace HI994:=Aside0.mk (hi)
 (try clear hb)
 (try clear hb2)
 (try clear hk)
 (try clear hi)
 refine hK.out _ _ ((Qcg BK1001.out 0).trans rfl) (fun hHeld=> ?_);clear hK K;refine norm_ (a':= ?_) ?_ ?_;rotate_left
 ·
  show Act.put _ (some 20) _=_
  simp only [Act.put,List.setIfInBounds_toArray,List.set_cons_zero,List.set_cons_succ,Qcq,Qd6];rfl
 refine one_ (i:=5) (N:=none) #[true,true,true,true,true,true,false,false] rfl rfl (Qjv HT_.out (by kernel_rfl)) (by decide) (fun K hK=> ?_);have hs18:w17.cell? ⟨gb993,0,none⟩=some (.slice none 0 0):=(Qcg BK993.out 0).trans rfl;have hfs18:=Qf BK993.out 0;have hns18_1:=NB1001_993.out;have hms18_1:=NB993_1001.out;refine skip_ (w1:= ?_) (by rfl) rfl ?_ ?_;rotate_left
 ·
  go_simp;rfl
 refine hK.out _ _ (((cell_far (p:=⟨gb993,_,none⟩) NB1001_993.out _).trans (hHeld))) (fun hHeld=> ?_);clear hK K;refine Qkd (i:=6) (N:=some 3) (v:= ?_) (a':= ?_) #[true,true,true,true,true,true,true,false] rfl rfl (Qjj HT_.out (by kernel_rfl)) (fun _ _ _ h=>h) (Or.inl ⟨by rfl,?_⟩) ?_ ?_;rotate_left
 ·
  intro w';go_simp
  with_reducible rfl
 rotate_left
 ·
  simp only [Act.put,List.setIfInBounds_toArray,List.set_cons_zero,List.set_cons_succ,Qcq,Qd6];rfl
 refine Qkd (i:=7) (N:=some 4) (v:= ?_) (a':= ?_) #[true,true,true,true,true,true,true,true] rfl rfl (Qjj HT_.out (by kernel_rfl)) (fun _ _ _ h=>h) (Or.inl ⟨by rfl,?_⟩) ?_ ?_;rotate_left
 ·
  intro w';go_simp
  with_reducible rfl
 rotate_left
 ·
  simp only [Act.put,List.setIfInBounds_toArray,List.set_cons_zero,List.set_cons_succ,Qcq,Qd6];rfl
 refine done_ (Qo2 HT_.out (by kernel_rfl)) ?_
 try go_wp2
 refine bodyPost_ret (Qif rfl _ _ gb993 26 #[.slice Ao8 t995.length co8] (0,0) _ rfl (by (with_reducible repeat (first|refine Qn ?_ _|refine Ql ?_|refine Qm ?_ _));refine Qcw (cs:= #[.slice none 0 0]) ?_ 0 _ rfl;(with_reducible repeat (first|refine Qn ?_ _|refine Ql ?_|refine Qm ?_ _));exact BK993.out) Tryz.underlying26 rfl (by kernel_rfl)) rfl ?_;exact ⟨_,by first|rfl|(simp [Qd,Qe] <;>rfl)|(simp [*,Qd,Qe] <;>rfl),by (with_reducible repeat (first|apply Kd.R_alloc|apply Kd.R_drewN|apply Kd.R_drew));exact Kd.R_mono (Kd.R_far (p:=⟨gb993,0,none⟩) (Kd.R_types HO997.out BK993.out (by decide)) (fun _ hk=>hk.2) (.slice Ao8 t995.length co8)) (fun _ hk=>trivial),by repeat (first|(with_reducible first|exact HB.out|apply Qk|apply Qi|apply Qo|refine Qx ?_ (Qa.ge HI994.out)|refine Qx ?_ GE993.out|refine Qx ?_ GE1001.out)|exact HB.out)⟩
end Go.Proofs.YtkgngggppcmpfaaGreat.L
end
section
namespace Go.Proofs.YtkgngggppcmpfaaGreat.L
open Go.RowKit Go.Proofs.YtkgngggppcmpfaaGreatW.PrintWords Go.Proofs.YtkgngggppcmpfaaGreatW.PrintLast Go.Proofs.YtkgngggppcmpfaaGreatW.PrintMore Go.Proofs.YtkgngggppcmpfaaGreat.X
attribute [local go_sem] Q2 Q4 Qbb Qbc Qt Qu Q3 Q5
set_option linter.unusedVariables false
set_option linter.unusedSimpArgs false
def Qd4.f (k : Nat) (l0_0 : List Int) (a1 : Int) (a2 : Int) : Option (Int × Bool) := (Qcl.f k l0_0 a1).bind fun t1009 => (if t1009 = true then ((Q0.f k l0_0).bind fun t1010 => ((Qcz.f a2 0 (wrap64 ((t1010.length : Int) - 1))).bind fun t1013 => (if t1013 = true then ((Qbv.f k l0_0 a1 (([a2] : List Int))).bind fun t1017 => (some (t1017, true))) else (some (0, false))))) else (some (0, false)))
theorem Qd4.mono : ∀ a0 a1 a2 k, LeO (Qd4.f k a0 a1 a2) (Qd4.f (k + 1) a0 a1 a2) := by
 intro a0 a1 a2 k;unfold Qd4.f
 repeat' (with_reducible first|apply Qcl.mono|apply Q0.mono|apply Qbv.mono|exact LeO.refl _|exact LeO.none _|refine LeO.ite ?_ ?_|refine LeO.bind ?_ (fun _=> ?_))
set_option maxHeartbeats 8000000 in
set_option maxRecDepth 100000 in
theorem Qd4.calls (k : Nat) (A0_0 : Option Addr) (c0_0 : Nat) (l0_0 : List Int) (a1 : Int) (a2 : Int) (r1 : Int) (r2 : Bool) (w : World) (hr0_0 : Kd.C (Kd.int .i64) w A0_0 l0_0.length l0_0) (hc0_0 : l0_0.length ≤ c0_0) (h : Qd4.f k l0_0 a1 a2 = some (r1, r2)) :
 Calls Tryz.prog 84 #[.agg #[.slice A0_0 l0_0.length c0_0], .int .i64 a1, .int .i64 a2] w fun e w'=>e= .returned (.tuple #[.int .i64 r1, .bool r2])∧Below w.heap.size w w':=by
 have hu26:=Tryz.underlying26;have HR0_0:=Aside0.mk hr0_0;have HC0_0:=Aside0.mk hc0_0;clear hr0_0 hc0_0;have HB:=Aside0.mk (Below.refl w.heap.size w);have H:((Qcl.f k l0_0 a1).bind fun t1009=>(if t1009=true then ((Q0.f k l0_0).bind fun t1010=>((Qcz.f a2 0 (wrap64 ((t1010.length:Int) - 1))).bind fun t1013=>(if t1013=true then ((Qbv.f k l0_0 a1 (([a2] :List Int))).bind fun t1017=>(some (t1017,true))) else (some (0,false))))) else (some (0,false))))=some (r1,r2):=h;clear h;obtain ⟨t1009,A4,H⟩:=bs H;(try dsimp only at H)
 by_cases c5:t1009=true
 ·
  subst c5;rw [if_pos rfl] at H;obtain ⟨t1010,A6,H⟩:=bs H;(try dsimp only at H)
  obtain ⟨t1013,A7,H⟩:=bs H;(try dsimp only at H)
  by_cases c8:t1013=true
  ·
   subst c8;rw [if_pos rfl] at H;obtain ⟨y1014,hy1014⟩: ∃ y_:List Int,y_=(([a2] :List Int)):=⟨_,rfl⟩
   replace H:((Qbv.f k l0_0 a1 y1014).bind fun t1017=>(some (t1017,true)))=some (r1,r2):=by first|(rw [hy1014];with_reducible exact H)|(have H2_:=(Option.bind_some _ _).symm.trans H;rw [hy1014];with_reducible exact H2_)|(have H2_:=(Option.bind_some _ _).symm.trans H;with_reducible exact H2_)|with_reducible exact H|(rw [hy1014];exact H)|exact H
   have Ny1014:=Aside0.mk hy1014;clear hy1014;obtain ⟨t1017,A9,H⟩:=bs H;(try dsimp only at H)
   simp only [Option.some.injEq,Prod.mk.injEq] at H;obtain ⟨rfl,rfl⟩:=H;go_enter Tryz.func84,Tryz.ntmps84;go_wp2_with (first|((with_reducible refine Qb9 (N:=3) rfl ?_);(try (refine Qec (by rfl) ?_;dsimp only));refine bE (N:=3) (cs:= #[.slice A0_0 l0_0.length c0_0]) (t:=26) ?_;intro gb1008 hg w10 hbox hb;have BK1008:=Aside0.mk (hbox);have GW1008:=Aside0.mk ((gV hg (uB HB)));have GE1008:=GW1008;replace HB:=Aside0.mk (Qb (uB HB) hb);clear hb hbox hg;have hcz11_0:=bC BK1008;have hfz11_0:=Qf BK1008.out 0)|(refine gA (some 10) Tryz.func152 #[.agg #[.slice A0_0 l0_0.length c0_0], .int .i64 a1] ?_;(with_reducible refine (Qcl.calls k _ _ l0_0 a1 true _ (uD HR0_0 HB) HC0_0.out A4.out).mono ?_);rintro e w12 ⟨rfl,hb⟩;refine ⟨_,rfl,?_⟩;replace BK1008:=Aside0.mk (Qc (uK BK1008) hb);replace HB:=Aside0.mk (Qb (uB HB) hb);(try clear hb);have hcz13_0:=bC BK1008;have hfz13_0:=Qf BK1008.out 0)|(go_at_call 155;(with_reducible refine (Q0.calls k _ _ l0_0 t1010 _ (uD HR0_0 HB) HC0_0.out A6.out).mono ?_);rintro e w14 ⟨v1011,rfl,ho0,hb⟩;have HO1012:=Aside0.mk (Kd.R_lower ho0 (Qj (uB HB)));replace BK1008:=Aside0.mk (Qc (uK BK1008) hb);replace HB:=Aside0.mk (Qb (uB HB) hb);(try clear hb ho0);obtain ⟨Ao15,co15,eo15⟩:=Kd.R_slice HO1012.out;subst eo15)|(go_at_call 192;(with_reducible refine (Qcz.calls a2 0 (wrap64 ((t1010.length:Int) - 1)) true _ A7.out).mono ?_);rintro e w' ⟨rfl,⟨nd,rfl⟩⟩;have hcz16_0:=bC BK1008;have hfz16_0:=Qf BK1008.out 0)|((with_reducible refine Qb9 (N:=24) rfl ?_);(try (refine Qec (by rfl) ?_;dsimp only));refine Kd.R_lit (Kd.int .i64) _ 3 ?hg (N:=24) ?hd (xs:=([a2] :List Int)) (inner:= [.int .i64 a2]) (ok:=fun _=>True) (okp:=fun _=>True) ?hr ?hp (fun _ hk=>hk) trivial (Below.refl _ _) (Nat.le_refl _) (by simp) ?_;(case hd=>rfl);(case hg=>rfl);(case hr=>first|(go_simp;done)|(go_simp;rfl));(case hp=>exact (Reps.one (show Kd.M (Kd.int .i64) _ _ _ a2 [.int .i64 a2] from rfl) (Reps.none _ _)));intro v1015 w17 ho18 hb hg_ hnew_;clear hg_ hnew_;(first|rw [←Ny1014.out] at ho18|(simp only [Int.reduceToNat] at ho18;rw [←Ny1014.out] at ho18));have HO1016:=Aside0.mk (Kd.R_lower (Kd.R_new' ho18 (Kd.R_lt (uR HO1012))) (Qj (uB HB)));replace HO1012:=Aside0.mk (Kd.R_elder' (uR HO1012) (Kd.R_base ho18) hb);replace BK1008:=Aside0.mk (Qc (uK BK1008) hb);replace HB:=Aside0.mk (Qb (uB HB) hb);clear hb ho18;obtain ⟨Ao19,co19,eo19⟩:=Kd.R_slice HO1016.out;subst eo19)|(refine gA (some 25) Tryz.func153 #[.agg #[.slice A0_0 l0_0.length c0_0], .int .i64 a1, .slice Ao19 y1014.length co19] ?_;(with_reducible refine (Qbv.calls k _ _ l0_0 a1 _ _ y1014 t1017 _ (uD HR0_0 HB) HC0_0.out (uE HO1016) ?side4 A9.out).mono ?_);(case side4=>exact (Kd.R_reads' HO1016.out).2.1);rintro e w20 ⟨rfl,hb⟩;refine ⟨_,rfl,?_⟩;replace HO1012:=Aside0.mk (Kd.R_below (uR HO1012) hb);replace HO1016:=Aside0.mk (Kd.R_below (uR HO1016) hb);replace BK1008:=Aside0.mk (Qc (uK BK1008) hb);replace HB:=Aside0.mk (Qb (uB HB) hb);(try clear hb)))
   go_ret2
   exact ⟨by first|rfl|(simp [Qd,Qe] <;>rfl)|(simp [*,Qd,Qe] <;>rfl),uB HB⟩
  ·
   replace c8:=Bool.eq_false_iff.mpr c8;subst c8;rw [if_neg (show ¬ (false=true) by decide)] at H;simp only [Option.some.injEq,Prod.mk.injEq] at H;obtain ⟨rfl,rfl⟩:=H;go_enter Tryz.func84,Tryz.ntmps84;go_wp2_with (first|((with_reducible refine Qb9 (N:=3) rfl ?_);(try (refine Qec (by rfl) ?_;dsimp only));refine bE (N:=3) (cs:= #[.slice A0_0 l0_0.length c0_0]) (t:=26) ?_;intro gb1008 hg w21 hbox hb;have BK1008:=Aside0.mk (hbox);have GW1008:=Aside0.mk ((gV hg (uB HB)));have GE1008:=GW1008;replace HB:=Aside0.mk (Qb (uB HB) hb);clear hb hbox hg;have hcz22_0:=bC BK1008;have hfz22_0:=Qf BK1008.out 0)|(refine gA (some 10) Tryz.func152 #[.agg #[.slice A0_0 l0_0.length c0_0], .int .i64 a1] ?_;(with_reducible refine (Qcl.calls k _ _ l0_0 a1 true _ (uD HR0_0 HB) HC0_0.out A4.out).mono ?_);rintro e w23 ⟨rfl,hb⟩;refine ⟨_,rfl,?_⟩;replace BK1008:=Aside0.mk (Qc (uK BK1008) hb);replace HB:=Aside0.mk (Qb (uB HB) hb);(try clear hb);have hcz24_0:=bC BK1008;have hfz24_0:=Qf BK1008.out 0)|(go_at_call 155;(with_reducible refine (Q0.calls k _ _ l0_0 t1010 _ (uD HR0_0 HB) HC0_0.out A6.out).mono ?_);rintro e w25 ⟨v1011,rfl,ho0,hb⟩;have HO1012:=Aside0.mk (Kd.R_lower ho0 (Qj (uB HB)));replace BK1008:=Aside0.mk (Qc (uK BK1008) hb);replace HB:=Aside0.mk (Qb (uB HB) hb);(try clear hb ho0);obtain ⟨Ao26,co26,eo26⟩:=Kd.R_slice HO1012.out;subst eo26)|(go_at_call 192;(with_reducible refine (Qcz.calls a2 0 (wrap64 ((t1010.length:Int) - 1)) false _ A7.out).mono ?_);rintro e w' ⟨rfl,⟨nd,rfl⟩⟩))
   go_ret2
   exact ⟨by first|rfl|(simp [Qd,Qe] <;>rfl)|(simp [*,Qd,Qe] <;>rfl),uB HB⟩
 ·
  replace c5:=Bool.eq_false_iff.mpr c5;subst c5;rw [if_neg (show ¬ (false=true) by decide)] at H;simp only [Option.some.injEq,Prod.mk.injEq] at H;obtain ⟨rfl,rfl⟩:=H;go_enter Tryz.func84,Tryz.ntmps84;go_wp2_with (first|((with_reducible refine Qb9 (N:=3) rfl ?_);(try (refine Qec (by rfl) ?_;dsimp only));refine bE (N:=3) (cs:= #[.slice A0_0 l0_0.length c0_0]) (t:=26) ?_;intro gb1008 hg w27 hbox hb;have BK1008:=Aside0.mk (hbox);have GW1008:=Aside0.mk ((gV hg (uB HB)));have GE1008:=GW1008;replace HB:=Aside0.mk (Qb (uB HB) hb);clear hb hbox hg;have hcz28_0:=bC BK1008;have hfz28_0:=Qf BK1008.out 0)|(refine gA (some 10) Tryz.func152 #[.agg #[.slice A0_0 l0_0.length c0_0], .int .i64 a1] ?_;(with_reducible refine (Qcl.calls k _ _ l0_0 a1 false _ (uD HR0_0 HB) HC0_0.out A4.out).mono ?_);rintro e w29 ⟨rfl,hb⟩;refine ⟨_,rfl,?_⟩;replace BK1008:=Aside0.mk (Qc (uK BK1008) hb);replace HB:=Aside0.mk (Qb (uB HB) hb);(try clear hb)))
  go_ret2
  exact ⟨by first|rfl|(simp [Qd,Qe] <;>rfl)|(simp [*,Qd,Qe] <;>rfl),uB HB⟩
mutual
def Q7.l0 : Nat → Int → List Int → Int → List Int → Int → Int → List Int → Option (List Int × Int × List Int)
 |0,_,_,_,_,_,_,_=>none
 |k+1,x7,x8,x9,x1020000,x1020001,x1020002,x1027000=>if x9>0 then ((Qz.f x1020000 x1020001 x1020002 3).bind fun bt1033=>(if x8.length<17592186044416 then (Q7.l0 k x7 (x8++ [bt1033.1]) (wrap64 (x9 - 1)) x1020000 bt1033.2.1 bt1033.2.2 x1027000) else (none))) else ((Qc6.f x1020000 x1020001 x1020002 25).bind fun bt1039=>(if bt1039.1=true then (Q7.l1 k x7 x8 x1020000 bt1039.2.1 bt1039.2.2 x1027000) else (some (x1027000,x7,x8))))
def Q7.l1 : Nat → Int → List Int → List Int → Int → Int → List Int → Option (List Int × Int × List Int)
 |0,_,_,_,_,_,_=>none
 |k+1,x7,x8,x1020000,x1020001,x1020002,x1027000=>(Qz.f x1020000 x1020001 x1020002 2).bind fun bt1042=>(if (x8.length:Int)<(wrap64 (40+bt1042.1)) then (if x8.length<17592186044416 then (Q7.l1 k x7 (x8++ [0]) x1020000 bt1042.2.1 bt1042.2.2 x1027000) else (none)) else (some (x1027000,x7,x8)))
end
def Q7.f (k : Nat) (l0 : List Int) : Option (List Int × Int × List Int) := (Qv.f k l0 0 0 8).bind fun bt1020 => ((Qce.f l0 bt1020.2.2.1 bt1020.2.2.2 (([0, 1, 3, 8] : List Int))).bind fun bt1030 => (Q7.l0 k bt1020.2.1 ([] : List Int) bt1030.1 l0 bt1030.2.1 bt1030.2.2 bt1020.1))
theorem Q7.mono_l : ∀ k, (∀ y0 y1 y2 y3 y4 y5 y6, LeO (Q7.l0 k y0 y1 y2 y3 y4 y5 y6) (Q7.l0 (k + 1) y0 y1 y2 y3 y4 y5 y6)) ∧ (∀ y0 y1 y2 y3 y4 y5, LeO (Q7.l1 k y0 y1 y2 y3 y4 y5) (Q7.l1 (k + 1) y0 y1 y2 y3 y4 y5))
 |0=>⟨fun _ _ _ _ _ _ _ r h=>by simp [Q7.l0] at h,fun _ _ _ _ _ _ r h=>by simp [Q7.l1] at h⟩
 |k+1=>by
  obtain ⟨ih0,ih1⟩:=Q7.mono_l k;refine ⟨?_,?_⟩
  all_goals
   intros
   first|unfold Q7.l0|unfold Q7.l1
   repeat' (with_reducible first|apply ih0|apply ih1|apply Qv.mono|exact LeO.refl _|exact LeO.none _|refine LeO.ite ?_ ?_|refine LeO.bind ?_ (fun _=> ?_))
theorem Q7.mono : ∀ a0 k, LeO (Q7.f k a0) (Q7.f (k + 1) a0) := by
 intro a0 k;obtain ⟨ih0,ih1⟩:=Q7.mono_l k;unfold Q7.f
 repeat' (with_reducible first|apply ih0|apply ih1|apply Qv.mono|exact LeO.refl _|exact LeO.none _|refine LeO.ite ?_ ?_|refine LeO.bind ?_ (fun _=> ?_))
set_option maxHeartbeats 8000000 in
set_option maxRecDepth 100000 in
theorem Q7.calls (k : Nat) (A0 : Option Addr) (c0 : Nat) (l0 : List Int) (r1 : List Int) (r2 : Int) (r3 : List Int) (w : World) (hr0 : Kd.C (Kd.int .u8) w A0 l0.length l0) (hc0 : l0.length ≤ c0) (h : Q7.f k l0 = some (r1, r2, r3)) :
 Calls Tryz.prog 85 #[.slice A0 l0.length c0] w fun e w'=> ∃ v0_ v2_:Value,e= .returned (.tuple #[.agg #[v0_], .int .i64 r2,v2_])∧Kd.R (Kd.int .i64) 3 w' w.heap.size (fun k_=>some k_≠(v2_:Value).ownBlock) v0_ r1∧Kd.R (Kd.int .i64) 3 w' w.heap.size (fun k_=>some k_≠(v0_:Value).ownBlock) v2_ r3∧Below w.heap.size w w':=by
 have hu26:=Tryz.underlying26;have hu94:=Tryz.underlying94;have HR0:=Aside0.mk hr0;have HC0:=Aside0.mk hc0;clear hr0 hc0;have HB:=Aside0.mk (Below.refl w.heap.size w);have H:((Qv.f k l0 0 0 8).bind fun bt1020=>((Qce.f l0 bt1020.2.2.1 bt1020.2.2.2 (([0,1,3,8] :List Int))).bind fun bt1030=>(Q7.l0 k bt1020.2.1 ([] :List Int) bt1030.1 l0 bt1030.2.1 bt1030.2.2 bt1020.1)))=some (r1,r2,r3):=h;clear h;obtain ⟨⟨t1020,t1023,t1024,t1025⟩,A2,H⟩:=bs H;(try dsimp only at H)
 obtain ⟨y1027,hy1027⟩: ∃ y_:List Int,y_=(([0,1,3,8] :List Int)):=⟨_,rfl⟩
 replace H:((Qce.f l0 t1024 t1025 y1027).bind fun bt1030=>(Q7.l0 k t1023 ([] :List Int) bt1030.1 l0 bt1030.2.1 bt1030.2.2 t1020))=some (r1,r2,r3):=by first|(rw [hy1027];with_reducible exact H)|(have H2_:=(Option.bind_some _ _).symm.trans H;rw [hy1027];with_reducible exact H2_)|(have H2_:=(Option.bind_some _ _).symm.trans H;with_reducible exact H2_)|with_reducible exact H|(rw [hy1027];exact H)|exact H
 have Ny1027:=Aside0.mk hy1027;clear hy1027;obtain ⟨⟨t1030,t1031,t1032⟩,A3,H⟩:=bs H;(try dsimp only at H)
 have H':=Aside0.mk H;clear H;go_enter Tryz.func85,Tryz.ntmps85;go_wp2_with (first|((with_reducible refine Qb9 (N:=2) rfl ?_);refine Qes ?hg (N:=2) ?hd (cs:= #[.slice none 0 0]) (t:=26) ?hr ?_;(case hd=>rfl);(case hg=>rfl);(case hr=>first|(go_simp;done)|(go_simp;rfl));intro gb1018 hg w4 hbox hb;have BK1018:=Aside0.mk (hbox);have GW1018:=Aside0.mk ((by rw [hg];exact (Qj (by repeat (first|(with_reducible first|exact HB.out|apply Qk|apply Qi|apply Qo)|exact HB.out))):w.heap.size≤gb1018));have GE1018:=GW1018;replace HB:=Aside0.mk (Qb (by repeat (first|(with_reducible first|exact HB.out|apply Qk|apply Qi|apply Qo)|exact HB.out)) hb);clear hb hbox hg)|((with_reducible refine Qb9 (N:=12) rfl ?_);refine Qes ?hg (N:=12) ?hd (cs:= #[.slice A0 l0.length c0, .int .i64 0, .int .u64 0]) (t:=94) ?hr ?_;(case hd=>rfl);(case hg=>rfl);(case hr=>first|(go_simp;done)|(go_simp;rfl));intro gb1019 hg w5 hbox hb;have HI1019:=Aside0.mk ((⟨_,_,hbox,(by rw [hg];exact (Qj (by repeat (first|(with_reducible first|exact HB.out|apply Qk|apply Qi|apply Qo|refine Qx ?_ GE1018.out)|exact HB.out))):w.heap.size≤gb1019),HR0.out⟩:Qa w _ gb1019 l0 0 0));have GW1019:=Aside0.mk ((by rw [hg];exact (Qj (by repeat (first|(with_reducible first|exact HB.out|apply Qk|apply Qi|apply Qo|refine Qx ?_ GE1018.out)|exact HB.out))):w.heap.size≤gb1019));have GE1019:=GW1019;replace HB:=Aside0.mk (Qb (by repeat (first|(with_reducible first|exact HB.out|apply Qk|apply Qi|apply Qo|refine Qx ?_ GE1018.out)|exact HB.out)) hb);have NB1018_1019:=Aside0.mk ((by rw [hg];exact Nat.ne_of_lt (Qb6 (g:=gb1018) (o:= .cells #[.slice none 0 0] 26 (0,0)) (by (with_reducible repeat (first|refine Qn ?_ _|refine Ql ?_|refine Qm ?_ _));exact BK1018.out)):gb1018≠gb1019));have NB1019_1018:=Aside0.mk ((by rw [hg];exact Nat.ne_of_gt (Qb6 (g:=gb1018) (o:= .cells #[.slice none 0 0] 26 (0,0)) (by (with_reducible repeat (first|refine Qn ?_ _|refine Ql ?_|refine Qm ?_ _));exact BK1018.out)):gb1019≠gb1018));replace BK1018:=Aside0.mk (Qc (g:=gb1018) (o:= .cells #[.slice none 0 0] 26 (0,0)) (by (with_reducible repeat (first|refine Qn ?_ _|refine Ql ?_|refine Qm ?_ _));exact BK1018.out) hb);clear hb hbox hg)|((with_reducible refine Qdr (f:=234) rfl ?_);refine Qe2 (some 15) rfl rfl Tryz.func234 (by kernel_rfl) rfl #[.pointer (some ⟨gb1019,0,none⟩), .int .i64 8] rfl (by (try simp only [List.map_toArray,List.map_cons,List.map_nil]);first|done|rfl|(simp only [List.length_drop,List.length_take];rfl)) ?_;(with_reducible refine (Qv.calls k gb1019 l0 0 0 8 t1020 t1023 t1024 t1025 w _ ?side1 ?side2 A2.out).mono ?_);(case side1=>repeat (first|(with_reducible first|exact HI1019.out|apply Qa.alloc|apply Qa.drewN|apply Qa.drew|apply Qa.set_1|apply Qa.set_2|refine Qa.far ?_ NB1019_1018.out _)|exact HI1019.out));(case side2=>repeat (first|(with_reducible first|exact HB.out|apply Qk|apply Qi|apply Qo|refine Qx ?_ (Qa.ge HI1019.out)|refine Qx ?_ GE1018.out)|exact HB.out));rintro e w6 ⟨v1021,rfl,ho0,hi,hb,hk⟩;refine ⟨_,rfl,?_⟩;replace BK1018:=Aside0.mk (Qg.blk hk (g':=gb1018) (o:= .cells #[.slice none 0 0] 26 (0,0)) (by (with_reducible repeat (first|refine Qn ?_ _|refine Ql ?_|refine Qm ?_ _));exact BK1018.out) NB1018_1019.out (by simp));have HO1022:=Aside0.mk (Kd.R_lower ho0 (Qj (by repeat (first|(with_reducible first|exact HB.out|apply Qk|apply Qi|apply Qo|refine Qx ?_ (Qa.ge HI1019.out)|refine Qx ?_ GE1018.out)|exact HB.out))));replace HB:=Aside0.mk (hb);replace HI1019:=Aside0.mk (hi);(try clear hb);(try clear hb2);(try clear hk);(try clear hi);(try clear ho0))|((with_reducible refine Qb9 (N:=6) rfl ?_);refine Qes ?hg (N:=6) ?hd (cs:= #[.slice none 0 0]) (t:=26) ?hr ?_;(case hd=>rfl);(case hg=>rfl);(case hr=>first|(go_simp;done)|(go_simp;rfl));intro gb1026 hg w7 hbox hb;replace HO1022:=Aside0.mk (Kd.R_below (by (with_reducible repeat (first|apply Kd.R_alloc|apply Kd.R_drewN|apply Kd.R_drew));exact HO1022.out) hb);have BK1026:=Aside0.mk (hbox);have GW1026:=Aside0.mk ((by rw [hg];exact (Qj (by repeat (first|(with_reducible first|exact HB.out|apply Qk|apply Qi|apply Qo|refine Qx ?_ (Qa.ge HI1019.out)|refine Qx ?_ GE1018.out)|exact HB.out))):w.heap.size≤gb1026));have GE1026:=GW1026;replace HB:=Aside0.mk (Qb (by repeat (first|(with_reducible first|exact HB.out|apply Qk|apply Qi|apply Qo|refine Qx ?_ (Qa.ge HI1019.out)|refine Qx ?_ GE1018.out)|exact HB.out)) hb);have NB1018_1026:=Aside0.mk ((by rw [hg];exact Nat.ne_of_lt (Qb6 (g:=gb1018) (o:= .cells #[.slice none 0 0] 26 (0,0)) (by (with_reducible repeat (first|refine Qn ?_ _|refine Ql ?_|refine Qm ?_ _));exact BK1018.out)):gb1018≠gb1026));have NB1026_1018:=Aside0.mk ((by rw [hg];exact Nat.ne_of_gt (Qb6 (g:=gb1018) (o:= .cells #[.slice none 0 0] 26 (0,0)) (by (with_reducible repeat (first|refine Qn ?_ _|refine Ql ?_|refine Qm ?_ _));exact BK1018.out)):gb1026≠gb1018));replace BK1018:=Aside0.mk (Qc (g:=gb1018) (o:= .cells #[.slice none 0 0] 26 (0,0)) (by (with_reducible repeat (first|refine Qn ?_ _|refine Ql ?_|refine Qm ?_ _));exact BK1018.out) hb);have NB1019_1026:=Aside0.mk ((by rw [hg];exact Nat.ne_of_lt (Qa.lt (show Qa w _ gb1019 l0 t1024 t1025 from by repeat (first|(with_reducible first|exact HI1019.out|apply Qa.alloc|apply Qa.drewN|apply Qa.drew|apply Qa.set_1|apply Qa.set_2|refine Qa.far ?_ NB1019_1018.out _)|exact HI1019.out))):gb1019≠gb1026));have NB1026_1019:=Aside0.mk ((by rw [hg];exact Nat.ne_of_gt (Qa.lt (show Qa w _ gb1019 l0 t1024 t1025 from by repeat (first|(with_reducible first|exact HI1019.out|apply Qa.alloc|apply Qa.drewN|apply Qa.drew|apply Qa.set_1|apply Qa.set_2|refine Qa.far ?_ NB1019_1018.out _)|exact HI1019.out))):gb1026≠gb1019));replace HI1019:=Aside0.mk (Qa.below (by repeat (first|(with_reducible first|exact HI1019.out|apply Qa.alloc|apply Qa.drewN|apply Qa.drew|apply Qa.set_1|apply Qa.set_2|refine Qa.far ?_ NB1019_1018.out _)|exact HI1019.out)) hb);clear hb hbox hg;obtain ⟨Ao8,co8,eo8⟩:=Kd.R_slice HO1022.out;subst eo8;have hnb9:=NB1026_1018.out;have hnc9:=NB1018_1026.out;have hnb10:=NB1026_1019.out;have hnc10:=NB1019_1026.out;have hcz11_0:w7.cell? ⟨gb1026,0,none⟩=some (.slice none 0 0):=(Qcg BK1026.out 0).trans rfl;have hfz11_0:=Qf BK1026.out 0)|((with_reducible refine Qb9 (N:=19) rfl ?_);refine Kd.R_lit (Kd.int .i64) _ 3 ?hg (N:=19) ?hd (xs:=([0,1,3,8] :List Int)) (inner:= [.int .i64 0, .int .i64 1, .int .i64 3, .int .i64 8]) (ok:=fun _=>True) (okp:=fun _=>True) ?hr ?hp (fun _ hk=>hk) trivial (Below.refl _ _) (Nat.le_refl _) (by simp) ?_;(case hd=>rfl);(case hg=>rfl);(case hr=>first|(go_simp;done)|(go_simp;rfl));(case hp=>exact (Reps.one (show Kd.M (Kd.int .i64) _ _ _ 0 [.int .i64 0] from rfl) (Reps.one (show Kd.M (Kd.int .i64) _ _ _ 1 [.int .i64 1] from rfl) (Reps.one (show Kd.M (Kd.int .i64) _ _ _ 3 [.int .i64 3] from rfl) (Reps.one (show Kd.M (Kd.int .i64) _ _ _ 8 [.int .i64 8] from rfl) (Reps.none _ _))))));intro v1028 w12 ho13 hb hg_ hnew_;clear hg_ hnew_;(first|rw [←Ny1027.out] at ho13|(simp only [Int.reduceToNat] at ho13;rw [←Ny1027.out] at ho13));have HO1029:=Aside0.mk (Kd.R_lower (Kd.R_new' ho13 (Kd.R_lt (by (with_reducible repeat (first|apply Kd.R_alloc|apply Kd.R_drewN|apply Kd.R_drew));exact (Kd.R_mono (Kd.R_far (p:=⟨gb1026,0,none⟩) (Kd.R_types HO1022.out BK1026.out (by decide)) (fun _ hk=>hk.2) (.slice Ao8 t1020.length co8)) (fun _ h_=>h_.1))))) (Qj (by repeat (first|(with_reducible first|exact HB.out|apply Qk|apply Qi|apply Qo|refine Qx ?_ (Qa.ge HI1019.out)|refine Qx ?_ GE1018.out|refine Qx ?_ GE1026.out)|exact HB.out))));replace HO1022:=Aside0.mk (Kd.R_elder' (by (with_reducible repeat (first|apply Kd.R_alloc|apply Kd.R_drewN|apply Kd.R_drew));exact (Kd.R_mono (Kd.R_far (p:=⟨gb1026,0,none⟩) (Kd.R_types HO1022.out BK1026.out (by decide)) (fun _ hk=>hk.2) (.slice Ao8 t1020.length co8)) (fun _ h_=>h_.1))) (Kd.R_base ho13) hb);replace BK1018:=Aside0.mk (Qc (g:=gb1018) (o:= .cells #[.slice none 0 0] 26 (0,0)) (by (with_reducible repeat (first|refine Qn ?_ _|refine Ql ?_|refine Qm ?_ _));refine Qei ?_ NB1018_1026.out _;(with_reducible repeat (first|refine Qn ?_ _|refine Ql ?_|refine Qm ?_ _));exact BK1018.out) hb);replace BK1026:=Aside0.mk (Qc (g:=gb1026) (o:= .cells #[.slice Ao8 t1020.length co8] 26 (0,0)) (by (with_reducible repeat (first|refine Qn ?_ _|refine Ql ?_|refine Qm ?_ _));refine Qcw (cs:= #[.slice none 0 0]) ?_ 0 _ rfl;(with_reducible repeat (first|refine Qn ?_ _|refine Ql ?_|refine Qm ?_ _));exact BK1026.out) hb);replace HB:=Aside0.mk (Qb (by repeat (first|(with_reducible first|exact HB.out|apply Qk|apply Qi|apply Qo|refine Qx ?_ (Qa.ge HI1019.out)|refine Qx ?_ GE1018.out|refine Qx ?_ GE1026.out)|exact HB.out)) hb);replace HI1019:=Aside0.mk (Qa.below (show Qa w (w7.setCell ⟨gb1026,0,none⟩ (.slice Ao8 t1020.length co8)) gb1019 l0 t1024 t1025 from by repeat (first|(with_reducible first|exact HI1019.out|apply Qa.alloc|apply Qa.drewN|apply Qa.drew|apply Qa.set_1|apply Qa.set_2|refine Qa.far ?_ NB1019_1018.out _|refine Qa.far ?_ NB1019_1026.out _)|exact HI1019.out)) hb);clear hb ho13;obtain ⟨Ao14,co14,eo14⟩:=Kd.R_slice HO1029.out;subst eo14)|((with_reducible refine Qdr (f:=190) rfl ?_);refine Qe2 (some 20) rfl rfl Tryz.func190 (by kernel_rfl) rfl #[.pointer (some ⟨gb1019,0,none⟩), .slice Ao14 y1027.length co14] rfl (by (try simp only [List.map_toArray,List.map_cons,List.map_nil]);first|done|rfl|(simp only [List.length_drop,List.length_take];rfl)) ?_;(with_reducible refine (Qce.calls gb1019 l0 t1024 t1025 _ _ y1027 t1030 t1031 t1032 w _ ?side1 ?side2 ?side3 ?side4 ?side5 A3.out).mono ?_);(case side1=>repeat (first|(with_reducible first|exact HI1019.out|apply Qa.alloc|apply Qa.drewN|apply Qa.drew|apply Qa.set_1|apply Qa.set_2|refine Qa.far ?_ NB1019_1018.out _|refine Qa.far ?_ NB1019_1026.out _)|exact HI1019.out));(case side2=>repeat (first|(with_reducible first|exact HB.out|apply Qk|apply Qi|apply Qo|refine Qx ?_ (Qa.ge HI1019.out)|refine Qx ?_ GE1018.out|refine Qx ?_ GE1026.out)|exact HB.out));(case side3=>repeat (first|exact (Kd.R_reads' HO1029.out).2.2|(with_reducible refine Kd.C_alloc ?_ _)|(with_reducible refine Kd.C_drewN ?_ _)|(with_reducible refine Kd.C_drew ?_)));(case side4=>exact (Kd.R_reads' HO1029.out).2.1);(case side5=>exact Qgb (Qa.own_ne HI1019.out HO1029.out (by decide)));rintro e w15 ⟨rfl,hi,hb,hk⟩;refine ⟨_,rfl,?_⟩;replace BK1018:=Aside0.mk (Qg.blk hk (g':=gb1018) (o:= .cells #[.slice none 0 0] 26 (0,0)) (by (with_reducible repeat (first|refine Qn ?_ _|refine Ql ?_|refine Qm ?_ _));exact BK1018.out) NB1018_1019.out (by simp));replace HO1022:=Aside0.mk (Kd.R_mono (Kd.R_keep (Qa.apart (show Qa w _ gb1019 l0 t1024 t1025 from by repeat (first|(with_reducible first|exact HI1019.out|apply Qa.alloc|apply Qa.drewN|apply Qa.drew|apply Qa.set_1|apply Qa.set_2|refine Qa.far ?_ NB1019_1018.out _|refine Qa.far ?_ NB1019_1026.out _)|exact HI1019.out)) (by (with_reducible repeat (first|apply Kd.R_alloc|apply Kd.R_drewN|apply Kd.R_drew));exact HO1022.out) (by decide)) hk (fun _ h=>h.2)) (fun _ h=>h.1));replace BK1026:=Aside0.mk (Qg.blk hk (g':=gb1026) (o:= .cells #[.slice Ao8 t1020.length co8] 26 (0,0)) (by (with_reducible repeat (first|refine Qn ?_ _|refine Ql ?_|refine Qm ?_ _));exact BK1026.out) NB1026_1019.out (by simp));replace HO1029:=Aside0.mk (Kd.R_mono (Kd.R_keep (Qa.apart (show Qa w _ gb1019 l0 t1024 t1025 from by repeat (first|(with_reducible first|exact HI1019.out|apply Qa.alloc|apply Qa.drewN|apply Qa.drew|apply Qa.set_1|apply Qa.set_2|refine Qa.far ?_ NB1019_1018.out _|refine Qa.far ?_ NB1019_1026.out _)|exact HI1019.out)) (by (with_reducible repeat (first|apply Kd.R_alloc|apply Kd.R_drewN|apply Kd.R_drew));exact HO1029.out) (by decide)) hk (fun _ h=>h.2)) (fun _ h=>h.1));replace HB:=Aside0.mk (hb);replace HI1019:=Aside0.mk (hi);(try clear hb);(try clear hb2);(try clear hk);(try clear hi)))
 (try simp only [Act.put,List.setIfInBounds_toArray,List.set_cons_zero,List.set_cons_succ])
 go_loopg [8,9] k (fun kq v8 v9 w'=> ∃ (x8_1:List Int) (x9_1:Int) (x1020001_1:Int) (x1020002_1:Int),v9= .int .i64 x9_1∧Aside0 (Q7.l0 kq t1023 x8_1 x9_1 l0 x1020001_1 x1020002_1 t1020=some (r1,r2,r3))∧Aside0 (kq≤k)∧Aside0 (Kd.R (Kd.int .i64) 3 w' w.heap.size (fun k_=>some k_≠((.slice Ao8 t1020.length co8):Value).ownBlock) v8 x8_1)∧Aside0 (Kd.R (Kd.int .i64) 3 w' w.heap.size (fun k_=>some k_≠(v8:Value).ownBlock) (.slice Ao8 t1020.length co8) t1020)∧Aside0 (w'.heap[gb1018]? =some (.cells #[(.slice none 0 0)] 26 (0,0)))∧Aside0 (w'.heap[gb1026]? =some (.cells #[(.slice Ao8 t1020.length co8)] 26 (0,0)))∧Aside0 (Qa w w' gb1019 l0 x1020001_1 x1020002_1)∧Aside0 (Below w.heap.size w w'))
 case atStart=>exact ⟨(([] :List Int)),(t1030),(t1031),(t1032),(by first|rfl|(simp;done)|(simp [*];done)),H',⟨Nat.le_refl _⟩,⟨by first|exact Kd.R_nil _ _ _ _ _|exact Kd.N_nil _ _ _ _ _|exact Kd.V_nil _ _ _ _ _|exact Kd.Q_nil _ _ _ _ _|exact Kd.S_nil _ _ _ _ _⟩,⟨Kd.R_mono (uR HO1022) (fun _ hk=>(by simp [Value.ownBlock]))⟩,⟨uK BK1018⟩,⟨uK BK1026⟩,⟨Qa.u HI1019⟩,⟨uB HB⟩⟩
 case round=>
  clear H'
  try clear c1
  try clear c2
  try clear p2
  try clear c8
  try clear c9
  try clear c10
  try clear hcz11_0
  try clear hfz11_0
  obtain ⟨x8_1,x9_1,x1020001_1,x1020002_1,rfl,HA,HK1,HO_8,HO_1027000,BK1018,BK1026,HI1019,HB⟩:=hrel;cases gk with
  |zero=>exact absurd HA.out (by simp [Q7.l0])
  |succ k1=>
   have H:=HA.out;clear HA;simp only [Q7.l0] at H
   by_cases c16:x9_1>0
   ·
    rw [if_pos c16] at H;have c16b0:=decide_eq_true c16;clear c16;obtain ⟨⟨t1033,t1034,t1035⟩,A17,H⟩:=bs H;(try dsimp only at H)
    by_cases c18:x8_1.length<17592186044416
    ·
     rw [if_pos c18] at H;have LMc18:=Aside0.mk c18;clear c18;obtain ⟨y1036,hy1036⟩: ∃ y_:List Int,y_=(x8_1++ [t1033]):=⟨_,rfl⟩
     replace H:(Q7.l0 k1 t1023 y1036 (wrap64 (x9_1 - 1)) l0 t1034 t1035 t1020)=some (r1,r2,r3):=by first|(rw [hy1036];with_reducible exact H)|(have H2_:=(Option.bind_some _ _).symm.trans H;rw [hy1036];with_reducible exact H2_)|(have H2_:=(Option.bind_some _ _).symm.trans H;with_reducible exact H2_)|with_reducible exact H|(rw [hy1036];exact H)|exact H
     have Ny1036:=Aside0.mk hy1036;clear hy1036;have H':=Aside0.mk H;clear H;go_wp2_with (first|(refine gA (some 27) Tryz.func162 #[.pointer (some ⟨gb1019,0,none⟩), .int .i64 3] ?_;(with_reducible refine (Qz.calls gb1019 l0 x1020001_1 x1020002_1 3 t1033 t1034 t1035 w _ (Qa.u HI1019) (uB HB) A17.out).mono ?_);rintro e w19 ⟨rfl,hi,hb,hk⟩;refine ⟨_,rfl,?_⟩;replace HO_8:=Aside0.mk (Kd.R_mono (Kd.R_keep (Qa.apart (show Qa w _ gb1019 l0 x1020001_1 x1020002_1 from Qa.u HI1019) (uR HO_8) (by decide)) hk (fun _ h=>h.2)) (fun _ h=>h.1));replace HO_1027000:=Aside0.mk (Kd.R_mono (Kd.R_keep (Qa.apart (show Qa w _ gb1019 l0 x1020001_1 x1020002_1 from Qa.u HI1019) (uR HO_1027000) (by decide)) hk (fun _ h=>h.2)) (fun _ h=>h.1));replace BK1018:=Aside0.mk (Qg.blk hk (g':=gb1018) (o:= .cells #[.slice none 0 0] 26 (0,0)) (uK BK1018) NB1018_1019.out (by simp));replace BK1026:=Aside0.mk (Qg.blk hk (g':=gb1026) (o:= .cells #[.slice Ao8 t1020.length co8] 26 (0,0)) (uK BK1026) NB1026_1019.out (by simp));replace HB:=Aside0.mk (hb);replace HI1019:=Aside0.mk (hi);(try clear hb hk hi))|((with_reducible refine Qcj (b:= .append) (xs:= #[.tmp 25, .tmp 28]) rfl ?_);at_builtin;refine Kd.R_append (Kd.int .i64) (w0:=w) w.heap.size rfl (.tmp 25) (.tmp 28) 24 3 (.int .i64 0) 8 rfl Tryz.underlying24 Qeo rfl (by decide) (by omega) u8 x8_1 t1033 [.int .i64 t1033] (fun k_=>some k_≠(.slice Ao8 t1020.length co8:Value).ownBlock) (fun _=>False) rfl rfl ?aP (fun _ hk=>hk.elim) ?aF ?aO ?aB ?aS ?aL ?_;(case aP=>exact rfl);(case aB=>exact (uB HB));(case aF=>exact (fun k_ hk=>Kd.fresh' (Kd.R_lt (uR HO_1027000)) k_ hk));(case aO=>exact (uR HO_8));(case aS=>exact (Qj (uB HB)));(case aL=>have:=LMc18.out;omega);intro v1037 w20 ho hb hg hat;rw [←Ny1036.out] at ho;replace HO_1027000:=Aside0.mk (Kd.R_after (ok:=(fun _=>True)) (Kd.R_mono (uR HO_1027000) (fun _ hk=>⟨trivial,hk⟩)) hg hat);replace BK1018:=Aside0.mk (Qdi (uK BK1018) hg (Kd.R_ne HO_8.out BK1018.out (by decide)));replace BK1026:=Aside0.mk (Qdi (uK BK1026) hg (Kd.R_ne HO_8.out BK1026.out (by decide)));replace HI1019:=Aside0.mk (Qa.grown (Qa.u HI1019) hg (Qa.own_ne HI1019.out HO_8.out (by decide)));replace HB:=Aside0.mk (hb);have HO1038:=Aside0.mk (ho);clear HO_8;clear ho hb hg hat));go_roundg k1
     case measure=>have:=HK1.out;omega
     case rel=>exact ⟨(y1036),(wrap64 (x9_1 - 1)),(t1034),(t1035),(by first|rfl|(simp;done)|(simp [*];done)),H',⟨by have:=HK1.out;omega⟩,⟨uR HO1038⟩,⟨Kd.R_mono (uR HO_1027000) (fun _ hk=>hk.2)⟩,⟨uK BK1018⟩,⟨uK BK1026⟩,⟨Qa.u HI1019⟩,⟨uB HB⟩⟩
    ·
     rw [if_neg c18] at H;exact absurd H (by simp)
   ·
    rw [if_neg c16] at H;have c16b0:=decide_eq_false c16;clear c16;obtain ⟨⟨t1039,t1040,t1041⟩,A21,H⟩:=bs H;(try dsimp only at H)
    by_cases c22:t1039=true
    ·
     subst c22;rw [if_pos rfl] at H;have H':=Aside0.mk H;clear H;go_wp2_with (first|(refine gA (some 31) Tryz.func161 #[.pointer (some ⟨gb1019,0,none⟩), .int .i64 25] ?_;(with_reducible refine (Qc6.calls gb1019 l0 x1020001_1 x1020002_1 25 true t1040 t1041 w _ (Qa.u HI1019) (uB HB) A21.out).mono ?_);rintro e w23 ⟨rfl,hi,hb,hk⟩;refine ⟨_,rfl,?_⟩;replace HO_8:=Aside0.mk (Kd.R_mono (Kd.R_keep (Qa.apart (show Qa w _ gb1019 l0 x1020001_1 x1020002_1 from Qa.u HI1019) (uR HO_8) (by decide)) hk (fun _ h=>h.2)) (fun _ h=>h.1));replace HO_1027000:=Aside0.mk (Kd.R_mono (Kd.R_keep (Qa.apart (show Qa w _ gb1019 l0 x1020001_1 x1020002_1 from Qa.u HI1019) (uR HO_1027000) (by decide)) hk (fun _ h=>h.2)) (fun _ h=>h.1));replace BK1018:=Aside0.mk (Qg.blk hk (g':=gb1018) (o:= .cells #[.slice none 0 0] 26 (0,0)) (uK BK1018) NB1018_1019.out (by simp));replace BK1026:=Aside0.mk (Qg.blk hk (g':=gb1026) (o:= .cells #[.slice Ao8 t1020.length co8] 26 (0,0)) (uK BK1026) NB1026_1019.out (by simp));replace HB:=Aside0.mk (hb);replace HI1019:=Aside0.mk (hi);(try clear hb hk hi)))
     (try simp only [Act.put,List.setIfInBounds_toArray,List.set_cons_zero,List.set_cons_succ])
     go_loopg [8] k1 (fun kq v8 w'=> ∃ (x8_2:List Int) (x1020001_2:Int) (x1020002_2:Int),Aside0 (Q7.l1 kq t1023 x8_2 l0 x1020001_2 x1020002_2 t1020=some (r1,r2,r3))∧Aside0 (kq≤k1)∧Aside0 (Kd.R (Kd.int .i64) 3 w' w.heap.size (fun k_=>some k_≠((.slice Ao8 t1020.length co8):Value).ownBlock) v8 x8_2)∧Aside0 (Kd.R (Kd.int .i64) 3 w' w.heap.size (fun k_=>some k_≠(v8:Value).ownBlock) (.slice Ao8 t1020.length co8) t1020)∧Aside0 (w'.heap[gb1018]? =some (.cells #[(.slice none 0 0)] 26 (0,0)))∧Aside0 (w'.heap[gb1026]? =some (.cells #[(.slice Ao8 t1020.length co8)] 26 (0,0)))∧Aside0 (Qa w w' gb1019 l0 x1020001_2 x1020002_2)∧Aside0 (Below w.heap.size w w'))
     case atStart=>exact ⟨(x8_1),(t1040),(t1041),H',⟨Nat.le_refl _⟩,⟨uR HO_8⟩,⟨uR HO_1027000⟩,⟨uK BK1018⟩,⟨uK BK1026⟩,⟨Qa.u HI1019⟩,⟨uB HB⟩⟩
     case round=>
      clear H'
      try clear c1
      try clear c2
      try clear p2
      try clear p6
      try clear c8
      try clear c9
      try clear c10
      try clear c16
      try clear c16b0
      try clear c18
      try clear c19
      try clear c22
      try clear c23
      try clear hcz11_0
      try clear hfz11_0
      try clear p2
      obtain ⟨x8_2,x1020001_2,x1020002_2,HA,HK2,HO_8,HO_1027000,BK1018,BK1026,HI1019,HB⟩:=hrel;cases gk with
      |zero=>exact absurd HA.out (by simp [Q7.l1])
      |succ k2=>
       have H:=HA.out;clear HA;simp only [Q7.l1] at H;obtain ⟨⟨t1042,t1043,t1044⟩,A24,H⟩:=bs H;(try dsimp only at H)
       by_cases c25:(x8_2.length:Int)<(wrap64 (40+t1042))
       ·
        rw [if_pos c25] at H;have c25b0:=decide_eq_true c25;clear c25
        by_cases c26:x8_2.length<17592186044416
        ·
         rw [if_pos c26] at H;have LMc26:=Aside0.mk c26;clear c26;obtain ⟨y1045,hy1045⟩: ∃ y_:List Int,y_=(x8_2++ [0]):=⟨_,rfl⟩
         replace H:(Q7.l1 k2 t1023 y1045 l0 t1043 t1044 t1020)=some (r1,r2,r3):=by first|(rw [hy1045];with_reducible exact H)|(have H2_:=(Option.bind_some _ _).symm.trans H;rw [hy1045];with_reducible exact H2_)|(have H2_:=(Option.bind_some _ _).symm.trans H;with_reducible exact H2_)|with_reducible exact H|(rw [hy1045];exact H)|exact H
         have Ny1045:=Aside0.mk hy1045;clear hy1045;have H':=Aside0.mk H;clear H;obtain ⟨Ao27,co27,eo27⟩:=Kd.R_slice HO_8.out;subst eo27;go_wp2_with (first|(refine gA (some 35) Tryz.func162 #[.pointer (some ⟨gb1019,0,none⟩), .int .i64 2] ?_;(with_reducible refine (Qz.calls gb1019 l0 x1020001_2 x1020002_2 2 t1042 t1043 t1044 w _ (Qa.u HI1019) (uB HB) A24.out).mono ?_);rintro e w28 ⟨rfl,hi,hb,hk⟩;refine ⟨_,rfl,?_⟩;replace HO_8:=Aside0.mk (Kd.R_mono (Kd.R_keep (Qa.apart (show Qa w _ gb1019 l0 x1020001_2 x1020002_2 from Qa.u HI1019) (uR HO_8) (by decide)) hk (fun _ h=>h.2)) (fun _ h=>h.1));replace HO_1027000:=Aside0.mk (Kd.R_mono (Kd.R_keep (Qa.apart (show Qa w _ gb1019 l0 x1020001_2 x1020002_2 from Qa.u HI1019) (uR HO_1027000) (by decide)) hk (fun _ h=>h.2)) (fun _ h=>h.1));replace BK1018:=Aside0.mk (Qg.blk hk (g':=gb1018) (o:= .cells #[.slice none 0 0] 26 (0,0)) (uK BK1018) NB1018_1019.out (by simp));replace BK1026:=Aside0.mk (Qg.blk hk (g':=gb1026) (o:= .cells #[.slice Ao8 t1020.length co8] 26 (0,0)) (uK BK1026) NB1026_1019.out (by simp));replace HB:=Aside0.mk (hb);replace HI1019:=Aside0.mk (hi);(try clear hb hk hi))|((with_reducible refine Qcj (b:= .append) (xs:= #[.tmp 38, .tmp 39]) rfl ?_);at_builtin;refine Kd.R_append (Kd.int .i64) (w0:=w) w.heap.size rfl (.tmp 38) (.tmp 39) 24 3 (.int .i64 0) 8 rfl Tryz.underlying24 Qeo rfl (by decide) (by omega) (.slice Ao27 x8_2.length co27) x8_2 0 [.int .i64 0] (fun k_=>some k_≠(.slice Ao8 t1020.length co8:Value).ownBlock) (fun _=>False) rfl rfl ?aP (fun _ hk=>hk.elim) ?aF ?aO ?aB ?aS ?aL ?_;(case aP=>exact rfl);(case aB=>exact (uB HB));(case aF=>exact (fun k_ hk=>Kd.fresh' (Kd.R_lt (uR HO_1027000)) k_ hk));(case aO=>exact (uR HO_8));(case aS=>exact (Qj (uB HB)));(case aL=>have:=LMc26.out;omega);intro v1046 w29 ho hb hg hat;rw [←Ny1045.out] at ho;replace HO_1027000:=Aside0.mk (Kd.R_after (ok:=(fun _=>True)) (Kd.R_mono (uR HO_1027000) (fun _ hk=>⟨trivial,hk⟩)) hg hat);replace BK1018:=Aside0.mk (Qdi (uK BK1018) hg (Kd.R_ne HO_8.out BK1018.out (by decide)));replace BK1026:=Aside0.mk (Qdi (uK BK1026) hg (Kd.R_ne HO_8.out BK1026.out (by decide)));replace HI1019:=Aside0.mk (Qa.grown (Qa.u HI1019) hg (Qa.own_ne HI1019.out HO_8.out (by decide)));replace HB:=Aside0.mk (hb);have HO1047:=Aside0.mk (ho);clear HO_8;clear ho hb hg hat));go_roundg k2
         case measure=>have:=HK1.out;have:=HK2.out;omega
         case rel=>exact ⟨(y1045),(t1043),(t1044),H',⟨by have:=HK1.out;have:=HK2.out;omega⟩,⟨uR HO1047⟩,⟨Kd.R_mono (uR HO_1027000) (fun _ hk=>hk.2)⟩,⟨uK BK1018⟩,⟨uK BK1026⟩,⟨Qa.u HI1019⟩,⟨uB HB⟩⟩
        ·
         rw [if_neg c26] at H;exact absurd H (by simp)
       ·
        rw [if_neg c25] at H;have c25b0:=decide_eq_false c25;clear c25;simp only [Option.some.injEq,Prod.mk.injEq] at H;obtain ⟨rfl,rfl,rfl⟩:=H;obtain ⟨Ao30,co30,eo30⟩:=Kd.R_slice HO_8.out;subst eo30;go_wp2_with (first|(refine gA (some 35) Tryz.func162 #[.pointer (some ⟨gb1019,0,none⟩), .int .i64 2] ?_;(with_reducible refine (Qz.calls gb1019 l0 x1020001_2 x1020002_2 2 t1042 t1043 t1044 w _ (Qa.u HI1019) (uB HB) A24.out).mono ?_);rintro e w31 ⟨rfl,hi,hb,hk⟩;refine ⟨_,rfl,?_⟩;replace HO_8:=Aside0.mk (Kd.R_mono (Kd.R_keep (Qa.apart (show Qa w _ gb1019 l0 x1020001_2 x1020002_2 from Qa.u HI1019) (uR HO_8) (by decide)) hk (fun _ h=>h.2)) (fun _ h=>h.1));replace HO_1027000:=Aside0.mk (Kd.R_mono (Kd.R_keep (Qa.apart (show Qa w _ gb1019 l0 x1020001_2 x1020002_2 from Qa.u HI1019) (uR HO_1027000) (by decide)) hk (fun _ h=>h.2)) (fun _ h=>h.1));replace BK1018:=Aside0.mk (Qg.blk hk (g':=gb1018) (o:= .cells #[.slice none 0 0] 26 (0,0)) (uK BK1018) NB1018_1019.out (by simp));replace BK1026:=Aside0.mk (Qg.blk hk (g':=gb1026) (o:= .cells #[.slice Ao8 t1020.length co8] 26 (0,0)) (uK BK1026) NB1026_1019.out (by simp));replace HB:=Aside0.mk (hb);replace HI1019:=Aside0.mk (hi);(try clear hb hk hi);have hnb32:=NB1026_1018.out;have hnc32:=NB1018_1026.out;have hnb33:=NB1026_1019.out;have hnc33:=NB1019_1026.out;have hcz34_0:=bC BK1026;have hfz34_0:=Qf BK1026.out 0;have hnb35:=NB1018_1019.out;have hnc35:=NB1019_1018.out;have hcz36_0:=bC BK1018;have hfz36_0:=Qf BK1018.out 0));refine bodyPost_ret (Qif rfl _ _ gb1018 26 #[.slice Ao8 t1020.length co8] (0,0) _ rfl (by (with_reducible repeat (first|refine Qn ?_ _|refine Ql ?_|refine Qm ?_ _));refine Qcw (cs:= #[.slice none 0 0]) ?_ 0 _ rfl;(with_reducible repeat (first|refine Qn ?_ _|refine Ql ?_|refine Qm ?_ _));exact BK1018.out) Tryz.underlying26 rfl (by kernel_rfl)) rfl ?_;exact ⟨_,_,by first|rfl|(simp [Qd,Qe] <;>rfl)|(simp [*,Qd,Qe] <;>rfl),by (with_reducible repeat (first|apply Kd.R_alloc|apply Kd.R_drewN|apply Kd.R_drew));exact Kd.R_mono (Kd.R_far (p:=⟨gb1018,0,none⟩) (Kd.R_types HO_1027000.out BK1018.out (by decide)) (fun _ hk=>hk.2) (.slice Ao8 t1020.length co8)) (fun _ hk=>hk.1),by (with_reducible repeat (first|apply Kd.R_alloc|apply Kd.R_drewN|apply Kd.R_drew));exact Kd.R_mono (Kd.R_far (p:=⟨gb1018,0,none⟩) (Kd.R_types HO_8.out BK1018.out (by decide)) (fun _ hk=>hk.2) (.slice Ao8 t1020.length co8)) (fun _ hk=>hk.1),(Qa.vB HB)⟩
    ·
     replace c22:=Bool.eq_false_iff.mpr c22;subst c22;rw [if_neg (show ¬ (false=true) by decide)] at H;simp only [Option.some.injEq,Prod.mk.injEq] at H;obtain ⟨rfl,rfl,rfl⟩:=H;go_wp2_with (first|(refine gA (some 31) Tryz.func161 #[.pointer (some ⟨gb1019,0,none⟩), .int .i64 25] ?_;(with_reducible refine (Qc6.calls gb1019 l0 x1020001_1 x1020002_1 25 false t1040 t1041 w _ (Qa.u HI1019) (uB HB) A21.out).mono ?_);rintro e w37 ⟨rfl,hi,hb,hk⟩;refine ⟨_,rfl,?_⟩;replace HO_8:=Aside0.mk (Kd.R_mono (Kd.R_keep (Qa.apart (show Qa w _ gb1019 l0 x1020001_1 x1020002_1 from Qa.u HI1019) (uR HO_8) (by decide)) hk (fun _ h=>h.2)) (fun _ h=>h.1));replace HO_1027000:=Aside0.mk (Kd.R_mono (Kd.R_keep (Qa.apart (show Qa w _ gb1019 l0 x1020001_1 x1020002_1 from Qa.u HI1019) (uR HO_1027000) (by decide)) hk (fun _ h=>h.2)) (fun _ h=>h.1));replace BK1018:=Aside0.mk (Qg.blk hk (g':=gb1018) (o:= .cells #[.slice none 0 0] 26 (0,0)) (uK BK1018) NB1018_1019.out (by simp));replace BK1026:=Aside0.mk (Qg.blk hk (g':=gb1026) (o:= .cells #[.slice Ao8 t1020.length co8] 26 (0,0)) (uK BK1026) NB1026_1019.out (by simp));replace HB:=Aside0.mk (hb);replace HI1019:=Aside0.mk (hi);(try clear hb hk hi);have hnb38:=NB1026_1018.out;have hnc38:=NB1018_1026.out;have hnb39:=NB1026_1019.out;have hnc39:=NB1019_1026.out;have hcz40_0:=bC BK1026;have hfz40_0:=Qf BK1026.out 0;have hnb41:=NB1018_1019.out;have hnc41:=NB1019_1018.out;have hcz42_0:=bC BK1018;have hfz42_0:=Qf BK1018.out 0));refine bodyPost_ret (Qif rfl _ _ gb1018 26 #[.slice Ao8 t1020.length co8] (0,0) _ rfl (by (with_reducible repeat (first|refine Qn ?_ _|refine Ql ?_|refine Qm ?_ _));refine Qcw (cs:= #[.slice none 0 0]) ?_ 0 _ rfl;(with_reducible repeat (first|refine Qn ?_ _|refine Ql ?_|refine Qm ?_ _));exact BK1018.out) Tryz.underlying26 rfl (by kernel_rfl)) rfl ?_;exact ⟨_,_,by first|rfl|(simp [Qd,Qe] <;>rfl)|(simp [*,Qd,Qe] <;>rfl),by (with_reducible repeat (first|apply Kd.R_alloc|apply Kd.R_drewN|apply Kd.R_drew));exact Kd.R_mono (Kd.R_far (p:=⟨gb1018,0,none⟩) (Kd.R_types HO_1027000.out BK1018.out (by decide)) (fun _ hk=>hk.2) (.slice Ao8 t1020.length co8)) (fun _ hk=>hk.1),by (with_reducible repeat (first|apply Kd.R_alloc|apply Kd.R_drewN|apply Kd.R_drew));exact Kd.R_mono (Kd.R_far (p:=⟨gb1018,0,none⟩) (Kd.R_types HO_8.out BK1018.out (by decide)) (fun _ hk=>hk.2) (.slice Ao8 t1020.length co8)) (fun _ hk=>hk.1),(Qa.vB HB)⟩
def Qc1.l0 : Nat → Int → Int → List Int → Int → Int → Option (Bool)
 |0,_,_,_,_,_=>none
 |k+1,x1,x2,x9,x10,x11=>if x11<x10 then (if 0≤x11 then (if x11<(x9.length:Int) then ((Qcz.f (rd x9 x11) x1 x2).bind fun t1049=>(if t1049=true then (Qc1.l0 k x1 x2 x9 x10 (wrap64 (x11+1))) else (some false))) else (none)) else (none)) else (some true)
def Qc1.f (k : Nat) (l0 : List Int) (a1 : Int) (a2 : Int) : Option (Bool) := Qc1.l0 k a1 a2 l0 (l0.length : Int) 0
theorem Qc1.mono_l : ∀ k, (∀ y0 y1 y2 y3 y4, LeO (Qc1.l0 k y0 y1 y2 y3 y4) (Qc1.l0 (k + 1) y0 y1 y2 y3 y4))
 |0=>fun _ _ _ _ _ r h=>by simp [Qc1.l0] at h
 |k+1=>by
  have ih0:=Qc1.mono_l k
  ·
   intro y0 y1 y2 y3 y4;unfold Qc1.l0
   repeat' first
   |(with_reducible exact ih0 _ _ _ _ _)
   |(with_reducible exact LeO.refl _)
   |(with_reducible exact LeO.none _)
   |(with_reducible refine LeO.ite ?_ ?_)
   |(with_reducible refine LeO.bind ?_ (fun _=> ?_))
   |exact ih0 _ _ _ _ _
   |exact LeO.none _
   |refine LeO.ite ?_ ?_
   |refine LeO.bind ?_ (fun _=> ?_)
theorem Qc1.mono : ∀ a0 a1 a2 k, LeO (Qc1.f k a0 a1 a2) (Qc1.f (k + 1) a0 a1 a2) := by
 intro a0 a1 a2 k;have ih0:=Qc1.mono_l k;unfold Qc1.f
 repeat' (with_reducible first|apply ih0|exact LeO.refl _|exact LeO.none _|refine LeO.ite ?_ ?_|refine LeO.bind ?_ (fun _=> ?_))
set_option maxHeartbeats 8000000 in
set_option maxRecDepth 100000 in
theorem Qc1.calls (k : Nat) (A0 : Option Addr) (c0 : Nat) (l0 : List Int) (a1 : Int) (a2 : Int) (r : Bool) (w : World) (hr0 : Kd.C (Kd.int .i64) w A0 l0.length l0) (hc0 : l0.length ≤ c0) (h : Qc1.f k l0 a1 a2 = some r) :
 Calls Tryz.prog 224 #[.slice A0 l0.length c0, .int .i64 a1, .int .i64 a2] w fun e w'=>e= .returned (.bool r)∧Drawn0 w w':=by
 have HR0:=Aside0.mk hr0;have HC0:=Aside0.mk hc0;clear hr0 hc0;have H:(Qc1.l0 k a1 a2 l0 (l0.length:Int) 0)=some r:=h;clear h;have H':=Aside0.mk H;clear H;go_enter Tryz.func224,Tryz.ntmps224;go_wp2
 go_loopg [11] k (fun kq v11 w'=> ∃ (x11_1:Int),v11= .int .i64 x11_1∧Aside0 (Qc1.l0 kq a1 a2 l0 (l0.length:Int) x11_1=some r)∧Aside0 (kq≤k)∧Drawn0 w w')
 case atStart=>exact ⟨(0),(by first|rfl|(simp;done)|(simp [*];done)),H',⟨Nat.le_refl _⟩,by repeat (first|exact Drawn0.refl _|apply Drawn0.step)⟩
 case round=>
  clear H'
  try clear c2
  try clear p2
  obtain ⟨x11_1,rfl,HA,HK1,⟨m1,rfl⟩⟩:=hrel;cases gk with
  |zero=>exact absurd HA.out (by simp [Qc1.l0])
  |succ k1=>
   have H:=HA.out;clear HA;simp only [Qc1.l0] at H
   by_cases c4:x11_1<(l0.length:Int)
   ·
    rw [if_pos c4] at H;have c4b0:=decide_eq_true c4;clear c4
    by_cases c5:0≤x11_1
    ·
     rw [if_pos c5] at H;have c5b0:=decide_eq_true c5;clear c5
     by_cases c6:x11_1<(l0.length:Int)
     ·
      rw [if_pos c6] at H;have c6b0:=decide_eq_true c6;clear c6;obtain ⟨t1049,A7,H⟩:=bs H;(try dsimp only at H)
      by_cases c8:t1049=true
      ·
       subst c8;rw [if_pos rfl] at H;have H':=Aside0.mk H;clear H;have p1048:0≤(x11_1:Int):=of_decide_eq_true (by first|(with_reducible assumption)|assumption);have q1048:x11_1<(l0.length:Int):=of_decide_eq_true (by first|(with_reducible assumption)|assumption);obtain ⟨ad1048,e1048,hx1048_0⟩:=Kd.at_int HR0.out x11_1 p1048 q1048;cases e1048;replace p1048:=eq_true p1048;replace q1048:=eq_true q1048;go_wp2_with (first|(refine gA (some 18) Tryz.func192 #[.int .i64 (rd l0 x11_1), .int .i64 a1, .int .i64 a2] ?_;(with_reducible refine (Qcz.calls (rd l0 x11_1) a1 a2 true _ A7.out).mono ?_);rintro e w' ⟨rfl,⟨nd,rfl⟩⟩;refine ⟨_,rfl,?_⟩));go_roundg k1
       case measure=>have:=HK1.out;omega
       case rel=>exact ⟨(wrap64 (x11_1+1)),(by first|rfl|(simp;done)|(simp [*];done)),H',⟨by have:=HK1.out;omega⟩,by repeat (first|exact Drawn0.refl _|apply Drawn0.step)⟩
      ·
       replace c8:=Bool.eq_false_iff.mpr c8;subst c8;rw [if_neg (show ¬ (false=true) by decide)] at H;obtain rfl:=Option.some.inj H;have p1048:0≤(x11_1:Int):=of_decide_eq_true (by first|(with_reducible assumption)|assumption);have q1048:x11_1<(l0.length:Int):=of_decide_eq_true (by first|(with_reducible assumption)|assumption);obtain ⟨ad1048,e1048,hx1048_0⟩:=Kd.at_int HR0.out x11_1 p1048 q1048;cases e1048;replace p1048:=eq_true p1048;replace q1048:=eq_true q1048;go_wp2_with (first|(refine gA (some 18) Tryz.func192 #[.int .i64 (rd l0 x11_1), .int .i64 a1, .int .i64 a2] ?_;(with_reducible refine (Qcz.calls (rd l0 x11_1) a1 a2 false _ A7.out).mono ?_);rintro e w' ⟨rfl,⟨nd,rfl⟩⟩;refine ⟨_,rfl,?_⟩))
       go_ret
       exact ⟨by first|rfl|(simp;done)|(simp [*];done),by repeat (first|exact Drawn0.refl _|apply Drawn0.step)⟩
     ·
      rw [if_neg c6] at H;exact absurd H (by simp)
    ·
     rw [if_neg c5] at H;exact absurd H (by simp)
   ·
    rw [if_neg c4] at H;have c4b0:=decide_eq_false c4;clear c4;obtain rfl:=Option.some.inj H;go_wp2
    go_ret
    exact ⟨by first|rfl|(simp;done)|(simp [*];done),by repeat (first|exact Drawn0.refl _|apply Drawn0.step)⟩
def Qdq.f (k : Nat) (l0_0 : List Int) (a1 : Int) (l2 : List Int) : Option (Int × Bool) := (Qcl.f k l0_0 a1).bind fun t1051 => (if t1051 = true then (if (l2.length : Int) > 40 then (some (0, false)) else ((Q0.f k l0_0).bind fun t1052 => ((Qc1.f k l2 0 (wrap64 ((t1052.length : Int) - 1))).bind fun t1055 => (if t1055 = true then ((Qbv.f k l0_0 a1 l2).bind fun t1056 => (some (t1056, true))) else (some (0, false)))))) else (some (0, false)))
theorem Qdq.mono : ∀ a0 a1 a2 k, LeO (Qdq.f k a0 a1 a2) (Qdq.f (k + 1) a0 a1 a2) := by
 intro a0 a1 a2 k;unfold Qdq.f
 repeat' (with_reducible first|apply Qc1.mono|apply Qcl.mono|apply Q0.mono|apply Qbv.mono|exact LeO.refl _|exact LeO.none _|refine LeO.ite ?_ ?_|refine LeO.bind ?_ (fun _=> ?_))
set_option maxHeartbeats 8000000 in
set_option maxRecDepth 100000 in
theorem Qdq.calls (k : Nat) (A0_0 : Option Addr) (c0_0 : Nat) (l0_0 : List Int) (a1 : Int) (A2 : Option Addr) (c2 : Nat) (l2 : List Int) (r1 : Int) (r2 : Bool) (w : World) (hr0_0 : Kd.C (Kd.int .i64) w A0_0 l0_0.length l0_0) (hc0_0 : l0_0.length ≤ c0_0) (hr2 : Kd.C (Kd.int .i64) w A2 l2.length l2) (hc2 : l2.length ≤ c2) (h : Qdq.f k l0_0 a1 l2 = some (r1, r2)) :
 Calls Tryz.prog 86 #[.agg #[.slice A0_0 l0_0.length c0_0], .int .i64 a1, .slice A2 l2.length c2] w fun e w'=>e= .returned (.tuple #[.int .i64 r1, .bool r2])∧Below w.heap.size w w':=by
 have hu26:=Tryz.underlying26;have HR0_0:=Aside0.mk hr0_0;have HC0_0:=Aside0.mk hc0_0;clear hr0_0 hc0_0;have HR2:=Aside0.mk hr2;have HC2:=Aside0.mk hc2;clear hr2 hc2;have HB:=Aside0.mk (Below.refl w.heap.size w);have H:((Qcl.f k l0_0 a1).bind fun t1051=>(if t1051=true then (if (l2.length:Int)>40 then (some (0,false)) else ((Q0.f k l0_0).bind fun t1052=>((Qc1.f k l2 0 (wrap64 ((t1052.length:Int) - 1))).bind fun t1055=>(if t1055=true then ((Qbv.f k l0_0 a1 l2).bind fun t1056=>(some (t1056,true))) else (some (0,false)))))) else (some (0,false))))=some (r1,r2):=h;clear h;obtain ⟨t1051,A4,H⟩:=bs H;(try dsimp only at H)
 by_cases c5:t1051=true
 ·
  subst c5;rw [if_pos rfl] at H
  by_cases c6:(l2.length:Int)>40
  ·
   rw [if_pos c6] at H;have c6b0:=decide_eq_true c6;have c6b1:decide (40<l2.length)=true:=decide_eq_true (by omega);clear c6;simp only [Option.some.injEq,Prod.mk.injEq] at H;obtain ⟨rfl,rfl⟩:=H;go_enter Tryz.func86,Tryz.ntmps86;go_wp2_with (first|((with_reducible refine Qb9 (N:=3) rfl ?_);(try (refine Qec (by rfl) ?_;dsimp only));refine bE (N:=3) (cs:= #[.slice A0_0 l0_0.length c0_0]) (t:=26) ?_;intro gb1050 hg w7 hbox hb;have BK1050:=Aside0.mk (hbox);have GW1050:=Aside0.mk ((gV hg (uB HB)));have GE1050:=GW1050;replace HB:=Aside0.mk (Qb (uB HB) hb);clear hb hbox hg;have hcz8_0:=bC BK1050;have hfz8_0:=Qf BK1050.out 0)|(refine gA (some 10) Tryz.func152 #[.agg #[.slice A0_0 l0_0.length c0_0], .int .i64 a1] ?_;(with_reducible refine (Qcl.calls k _ _ l0_0 a1 true _ (uD HR0_0 HB) HC0_0.out A4.out).mono ?_);rintro e w9 ⟨rfl,hb⟩;refine ⟨_,rfl,?_⟩;replace BK1050:=Aside0.mk (Qc (uK BK1050) hb);replace HB:=Aside0.mk (Qb (uB HB) hb);(try clear hb)))
   go_ret2
   exact ⟨by first|rfl|(simp [Qd,Qe] <;>rfl)|(simp [*,Qd,Qe] <;>rfl),uB HB⟩
  ·
   rw [if_neg c6] at H;have c6b0:=decide_eq_false c6;have c6b1:decide (40<l2.length)=false:=decide_eq_false (by omega);clear c6;obtain ⟨t1052,A10,H⟩:=bs H;(try dsimp only at H)
   obtain ⟨t1055,A11,H⟩:=bs H;(try dsimp only at H)
   by_cases c12:t1055=true
   ·
    subst c12;rw [if_pos rfl] at H;obtain ⟨t1056,A13,H⟩:=bs H;(try dsimp only at H)
    simp only [Option.some.injEq,Prod.mk.injEq] at H;obtain ⟨rfl,rfl⟩:=H;go_enter Tryz.func86,Tryz.ntmps86;go_wp2_with (first|((with_reducible refine Qb9 (N:=3) rfl ?_);(try (refine Qec (by rfl) ?_;dsimp only));refine bE (N:=3) (cs:= #[.slice A0_0 l0_0.length c0_0]) (t:=26) ?_;intro gb1050 hg w14 hbox hb;have BK1050:=Aside0.mk (hbox);have GW1050:=Aside0.mk ((gV hg (uB HB)));have GE1050:=GW1050;replace HB:=Aside0.mk (Qb (uB HB) hb);clear hb hbox hg;have hcz15_0:=bC BK1050;have hfz15_0:=Qf BK1050.out 0)|(refine gA (some 10) Tryz.func152 #[.agg #[.slice A0_0 l0_0.length c0_0], .int .i64 a1] ?_;(with_reducible refine (Qcl.calls k _ _ l0_0 a1 true _ (uD HR0_0 HB) HC0_0.out A4.out).mono ?_);rintro e w16 ⟨rfl,hb⟩;refine ⟨_,rfl,?_⟩;replace BK1050:=Aside0.mk (Qc (uK BK1050) hb);replace HB:=Aside0.mk (Qb (uB HB) hb);(try clear hb);have hcz17_0:=bC BK1050;have hfz17_0:=Qf BK1050.out 0)|(go_at_call 155;(with_reducible refine (Q0.calls k _ _ l0_0 t1052 _ (uD HR0_0 HB) HC0_0.out A10.out).mono ?_);rintro e w18 ⟨v1053,rfl,ho0,hb⟩;have HO1054:=Aside0.mk (Kd.R_lower ho0 (Qj (uB HB)));replace BK1050:=Aside0.mk (Qc (uK BK1050) hb);replace HB:=Aside0.mk (Qb (uB HB) hb);(try clear hb ho0);obtain ⟨Ao19,co19,eo19⟩:=Kd.R_slice HO1054.out;subst eo19)|(go_at_call 224;(with_reducible refine (Qc1.calls k _ _ l2 0 (wrap64 ((t1052.length:Int) - 1)) true _ (uD HR2 HB) HC2.out A11.out).mono ?_);rintro e w' ⟨rfl,⟨nd,rfl⟩⟩;have hcz20_0:=bC BK1050;have hfz20_0:=Qf BK1050.out 0)|(refine gA (some 29) Tryz.func153 #[.agg #[.slice A0_0 l0_0.length c0_0], .int .i64 a1, .slice A2 l2.length c2] ?_;(with_reducible refine (Qbv.calls k _ _ l0_0 a1 _ _ l2 t1056 _ ?side1 HC0_0.out ?side3 HC2.out A13.out).mono ?_);(case side1=>repeat (first|exact (Kd.C_below HR0_0.out (uB HB))|(with_reducible refine Kd.C_alloc ?_ _)|(with_reducible refine Kd.C_drewN ?_ _)|(with_reducible refine Kd.C_drew ?_)));(case side3=>repeat (first|exact (Kd.C_below HR2.out (uB HB))|(with_reducible refine Kd.C_alloc ?_ _)|(with_reducible refine Kd.C_drewN ?_ _)|(with_reducible refine Kd.C_drew ?_)));rintro e w21 ⟨rfl,hb⟩;refine ⟨_,rfl,?_⟩;replace HO1054:=Aside0.mk (Kd.R_below (uR HO1054) hb);replace BK1050:=Aside0.mk (Qc (uK BK1050) hb);replace HB:=Aside0.mk (Qb (uB HB) hb);(try clear hb)))
    go_ret2
    exact ⟨by first|rfl|(simp [Qd,Qe] <;>rfl)|(simp [*,Qd,Qe] <;>rfl),uB HB⟩
   ·
    replace c12:=Bool.eq_false_iff.mpr c12;subst c12;rw [if_neg (show ¬ (false=true) by decide)] at H;simp only [Option.some.injEq,Prod.mk.injEq] at H;obtain ⟨rfl,rfl⟩:=H;go_enter Tryz.func86,Tryz.ntmps86;go_wp2_with (first|((with_reducible refine Qb9 (N:=3) rfl ?_);(try (refine Qec (by rfl) ?_;dsimp only));refine bE (N:=3) (cs:= #[.slice A0_0 l0_0.length c0_0]) (t:=26) ?_;intro gb1050 hg w22 hbox hb;have BK1050:=Aside0.mk (hbox);have GW1050:=Aside0.mk ((gV hg (uB HB)));have GE1050:=GW1050;replace HB:=Aside0.mk (Qb (uB HB) hb);clear hb hbox hg;have hcz23_0:=bC BK1050;have hfz23_0:=Qf BK1050.out 0)|(refine gA (some 10) Tryz.func152 #[.agg #[.slice A0_0 l0_0.length c0_0], .int .i64 a1] ?_;(with_reducible refine (Qcl.calls k _ _ l0_0 a1 true _ (uD HR0_0 HB) HC0_0.out A4.out).mono ?_);rintro e w24 ⟨rfl,hb⟩;refine ⟨_,rfl,?_⟩;replace BK1050:=Aside0.mk (Qc (uK BK1050) hb);replace HB:=Aside0.mk (Qb (uB HB) hb);(try clear hb);have hcz25_0:=bC BK1050;have hfz25_0:=Qf BK1050.out 0)|(go_at_call 155;(with_reducible refine (Q0.calls k _ _ l0_0 t1052 _ (uD HR0_0 HB) HC0_0.out A10.out).mono ?_);rintro e w26 ⟨v1053,rfl,ho0,hb⟩;have HO1054:=Aside0.mk (Kd.R_lower ho0 (Qj (uB HB)));replace BK1050:=Aside0.mk (Qc (uK BK1050) hb);replace HB:=Aside0.mk (Qb (uB HB) hb);(try clear hb ho0);obtain ⟨Ao27,co27,eo27⟩:=Kd.R_slice HO1054.out;subst eo27)|(go_at_call 224;(with_reducible refine (Qc1.calls k _ _ l2 0 (wrap64 ((t1052.length:Int) - 1)) false _ (uD HR2 HB) HC2.out A11.out).mono ?_);rintro e w' ⟨rfl,⟨nd,rfl⟩⟩))
    go_ret2
    exact ⟨by first|rfl|(simp [Qd,Qe] <;>rfl)|(simp [*,Qd,Qe] <;>rfl),uB HB⟩
 ·
  replace c5:=Bool.eq_false_iff.mpr c5;subst c5;rw [if_neg (show ¬ (false=true) by decide)] at H;simp only [Option.some.injEq,Prod.mk.injEq] at H;obtain ⟨rfl,rfl⟩:=H;go_enter Tryz.func86,Tryz.ntmps86;go_wp2_with (first|((with_reducible refine Qb9 (N:=3) rfl ?_);(try (refine Qec (by rfl) ?_;dsimp only));refine bE (N:=3) (cs:= #[.slice A0_0 l0_0.length c0_0]) (t:=26) ?_;intro gb1050 hg w28 hbox hb;have BK1050:=Aside0.mk (hbox);have GW1050:=Aside0.mk ((gV hg (uB HB)));have GE1050:=GW1050;replace HB:=Aside0.mk (Qb (uB HB) hb);clear hb hbox hg;have hcz29_0:=bC BK1050;have hfz29_0:=Qf BK1050.out 0)|(refine gA (some 10) Tryz.func152 #[.agg #[.slice A0_0 l0_0.length c0_0], .int .i64 a1] ?_;(with_reducible refine (Qcl.calls k _ _ l0_0 a1 false _ (uD HR0_0 HB) HC0_0.out A4.out).mono ?_);rintro e w30 ⟨rfl,hb⟩;refine ⟨_,rfl,?_⟩;replace BK1050:=Aside0.mk (Qc (uK BK1050) hb);replace HB:=Aside0.mk (Qb (uB HB) hb);(try clear hb)))
  go_ret2
  exact ⟨by first|rfl|(simp [Qd,Qe] <;>rfl)|(simp [*,Qd,Qe] <;>rfl),uB HB⟩
def Qdy.f (k : Nat) (l0 : List Int) : Option (List Int) := (Q8.f k l0 0 0 10).bind fun bt1059 => (some bt1059.1)
theorem Qdy.mono : ∀ a0 k, LeO (Qdy.f k a0) (Qdy.f (k + 1) a0) := by
 intro a0 k;unfold Qdy.f
 repeat' (with_reducible first|apply Q8.mono|exact LeO.refl _|exact LeO.none _|refine LeO.ite ?_ ?_|refine LeO.bind ?_ (fun _=> ?_))
set_option maxHeartbeats 8000000 in
set_option maxRecDepth 100000 in
theorem Qdy.calls (k : Nat) (A0 : Option Addr) (c0 : Nat) (l0 : List Int) (r : List Int) (w : World) (hr0 : Kd.C (Kd.int .u8) w A0 l0.length l0) (hc0 : l0.length ≤ c0) (h : Qdy.f k l0 = some r) :
 Calls Tryz.prog 87 #[.slice A0 l0.length c0] w fun e w'=> ∃ v0_:Value,e= .returned (.agg #[v0_])∧Kd.R (Kd.int .i64) 3 w' w.heap.size (fun _=>True) v0_ r∧Below w.heap.size w w':=by
 have hu26:=Tryz.underlying26;have hu94:=Tryz.underlying94;have HR0:=Aside0.mk hr0;have HC0:=Aside0.mk hc0;clear hr0 hc0;have HB:=Aside0.mk (Below.refl w.heap.size w);have H:((Q8.f k l0 0 0 10).bind fun bt1059=>(some bt1059.1))=some r:=h;clear h;obtain ⟨⟨t1059,t1062,t1063⟩,A2,H⟩:=bs H;(try dsimp only at H)
 obtain rfl:=Option.some.inj H;go_enter Tryz.func87,Tryz.ntmps87;go_wp2_with (first|((with_reducible refine Qb9 (N:=2) rfl ?_);refine Qes ?hg (N:=2) ?hd (cs:= #[.slice none 0 0]) (t:=26) ?hr ?_;(case hd=>rfl);(case hg=>rfl);(case hr=>first|(go_simp;done)|(go_simp;rfl));intro gb1057 hg w3 hbox hb;have BK1057:=Aside0.mk (hbox);have GW1057:=Aside0.mk ((by rw [hg];exact (Qj (by repeat (first|(with_reducible first|exact HB.out|apply Qk|apply Qi|apply Qo)|exact HB.out))):w.heap.size≤gb1057));have GE1057:=GW1057;replace HB:=Aside0.mk (Qb (by repeat (first|(with_reducible first|exact HB.out|apply Qk|apply Qi|apply Qo)|exact HB.out)) hb);clear hb hbox hg)|((with_reducible refine Qb9 (N:=6) rfl ?_);refine Qes ?hg (N:=6) ?hd (cs:= #[.slice A0 l0.length c0, .int .i64 0, .int .u64 0]) (t:=94) ?hr ?_;(case hd=>rfl);(case hg=>rfl);(case hr=>first|(go_simp;done)|(go_simp;rfl));intro gb1058 hg w4 hbox hb;have HI1058:=Aside0.mk ((⟨_,_,hbox,(by rw [hg];exact (Qj (by repeat (first|(with_reducible first|exact HB.out|apply Qk|apply Qi|apply Qo|refine Qx ?_ GE1057.out)|exact HB.out))):w.heap.size≤gb1058),HR0.out⟩:Qa w _ gb1058 l0 0 0));have GW1058:=Aside0.mk ((by rw [hg];exact (Qj (by repeat (first|(with_reducible first|exact HB.out|apply Qk|apply Qi|apply Qo|refine Qx ?_ GE1057.out)|exact HB.out))):w.heap.size≤gb1058));have GE1058:=GW1058;replace HB:=Aside0.mk (Qb (by repeat (first|(with_reducible first|exact HB.out|apply Qk|apply Qi|apply Qo|refine Qx ?_ GE1057.out)|exact HB.out)) hb);have NB1057_1058:=Aside0.mk ((by rw [hg];exact Nat.ne_of_lt (Qb6 (g:=gb1057) (o:= .cells #[.slice none 0 0] 26 (0,0)) (by (with_reducible repeat (first|refine Qn ?_ _|refine Ql ?_|refine Qm ?_ _));exact BK1057.out)):gb1057≠gb1058));have NB1058_1057:=Aside0.mk ((by rw [hg];exact Nat.ne_of_gt (Qb6 (g:=gb1057) (o:= .cells #[.slice none 0 0] 26 (0,0)) (by (with_reducible repeat (first|refine Qn ?_ _|refine Ql ?_|refine Qm ?_ _));exact BK1057.out)):gb1058≠gb1057));replace BK1057:=Aside0.mk (Qc (g:=gb1057) (o:= .cells #[.slice none 0 0] 26 (0,0)) (by (with_reducible repeat (first|refine Qn ?_ _|refine Ql ?_|refine Qm ?_ _));exact BK1057.out) hb);clear hb hbox hg)|((with_reducible refine Qdr (f:=164) rfl ?_);refine Qe2 (some 8) rfl rfl Tryz.func164 (by kernel_rfl) rfl #[.pointer (some ⟨gb1058,0,none⟩), .int .i64 10] rfl (by (try simp only [List.map_toArray,List.map_cons,List.map_nil]);first|done|rfl|(simp only [List.length_drop,List.length_take];rfl)) ?_;(with_reducible refine (Q8.calls k gb1058 l0 0 0 10 t1059 t1062 t1063 w _ ?side1 ?side2 A2.out).mono ?_);(case side1=>repeat (first|(with_reducible first|exact HI1058.out|apply Qa.alloc|apply Qa.drewN|apply Qa.drew|apply Qa.set_1|apply Qa.set_2|refine Qa.far ?_ NB1058_1057.out _)|exact HI1058.out));(case side2=>repeat (first|(with_reducible first|exact HB.out|apply Qk|apply Qi|apply Qo|refine Qx ?_ (Qa.ge HI1058.out)|refine Qx ?_ GE1057.out)|exact HB.out));rintro e w5 ⟨v1060,rfl,ho0,hi,hb,hk⟩;refine ⟨_,rfl,?_⟩;replace BK1057:=Aside0.mk (Qg.blk hk (g':=gb1057) (o:= .cells #[.slice none 0 0] 26 (0,0)) (by (with_reducible repeat (first|refine Qn ?_ _|refine Ql ?_|refine Qm ?_ _));exact BK1057.out) NB1057_1058.out (by simp));have HO1061:=Aside0.mk (Kd.R_lower ho0 (Qj (by repeat (first|(with_reducible first|exact HB.out|apply Qk|apply Qi|apply Qo|refine Qx ?_ (Qa.ge HI1058.out)|refine Qx ?_ GE1057.out)|exact HB.out))));replace HB:=Aside0.mk (hb);replace HI1058:=Aside0.mk (hi);(try clear hb);(try clear hb2);(try clear hk);(try clear hi);(try clear ho0);obtain ⟨Ao6,co6,eo6⟩:=Kd.R_slice HO1061.out;subst eo6;have hnb7:=NB1057_1058.out;have hnc7:=NB1058_1057.out;have hcz8_0:w5.cell? ⟨gb1057,0,none⟩=some (.slice none 0 0):=(Qcg BK1057.out 0).trans rfl;have hfz8_0:=Qf BK1057.out 0));refine bodyPost_ret (results_cell_row rfl _ _ gb1057 26 #[.slice Ao6 t1059.length co6] (0,0) _ rfl (by (with_reducible repeat (first|refine Qn ?_ _|refine Ql ?_|refine Qm ?_ _));refine Qcw (cs:= #[.slice none 0 0]) ?_ 0 _ rfl;(with_reducible repeat (first|refine Qn ?_ _|refine Ql ?_|refine Qm ?_ _));exact BK1057.out) Tryz.underlying26 rfl (by kernel_rfl)) rfl ?_;exact ⟨_,by first|rfl|(simp [Qd,Qe] <;>rfl)|(simp [*,Qd,Qe] <;>rfl),by (with_reducible repeat (first|apply Kd.R_alloc|apply Kd.R_drewN|apply Kd.R_drew));exact Kd.R_mono (Kd.R_far (p:=⟨gb1057,0,none⟩) (Kd.R_types HO1061.out BK1057.out (by decide)) (fun _ hk=>hk.2) (.slice Ao6 t1059.length co6)) (fun _ hk=>trivial),(Qa.vB HB)⟩
def Qeg.f (k : Nat) (l0_0 : List Int) : Option (List Int × Bool) := (Qc3.f k l0_0).bind fun t1065 => (if t1065 = true then ((Q0.f k l0_0).bind fun t1066 => (some (t1066, true))) else (some (([] : List Int), false)))
theorem Qeg.mono : ∀ a0 k, LeO (Qeg.f k a0) (Qeg.f (k + 1) a0) := by
 intro a0 k;unfold Qeg.f
 repeat' (with_reducible first|apply Qc3.mono|apply Q0.mono|exact LeO.refl _|exact LeO.none _|refine LeO.ite ?_ ?_|refine LeO.bind ?_ (fun _=> ?_))
set_option maxHeartbeats 8000000 in
set_option maxRecDepth 100000 in
theorem Qeg.calls (k : Nat) (A0_0 : Option Addr) (c0_0 : Nat) (l0_0 : List Int) (r1 : List Int) (r2 : Bool) (w : World) (hr0_0 : Kd.C (Kd.int .i64) w A0_0 l0_0.length l0_0) (hc0_0 : l0_0.length ≤ c0_0) (h : Qeg.f k l0_0 = some (r1, r2)) :
 Calls Tryz.prog 88 #[.agg #[.slice A0_0 l0_0.length c0_0]] w fun e w'=> ∃ v0_:Value,e= .returned (.tuple #[v0_, .bool r2])∧Kd.R (Kd.int .i64) 3 w' w.heap.size (fun _=>True) v0_ r1∧Below w.heap.size w w':=by
 have hu26:=Tryz.underlying26;have HR0_0:=Aside0.mk hr0_0;have HC0_0:=Aside0.mk hc0_0;clear hr0_0 hc0_0;have HB:=Aside0.mk (Below.refl w.heap.size w);have H:((Qc3.f k l0_0).bind fun t1065=>(if t1065=true then ((Q0.f k l0_0).bind fun t1066=>(some (t1066,true))) else (some (([] :List Int),false))))=some (r1,r2):=h;clear h;obtain ⟨t1065,A2,H⟩:=bs H;(try dsimp only at H)
 by_cases c3:t1065=true
 ·
  subst c3;rw [if_pos rfl] at H;obtain ⟨t1066,A4,H⟩:=bs H;(try dsimp only at H)
  simp only [Option.some.injEq,Prod.mk.injEq] at H;obtain ⟨rfl,rfl⟩:=H;go_enter Tryz.func88,Tryz.ntmps88;go_wp2_with (first|(refine bE (N:=1) (cs:= #[.slice A0_0 l0_0.length c0_0]) (t:=26) ?_;intro gb1064 hg w5 hbox hb;have BK1064:=Aside0.mk (hbox);have GW1064:=Aside0.mk ((gV hg (uB HB)));have GE1064:=GW1064;replace HB:=Aside0.mk (Qb (uB HB) hb);clear hb hbox hg;have hcz6_0:=bC BK1064;have hfz6_0:=Qf BK1064.out 0)|(refine gA (some 5) Tryz.func165 #[.agg #[.slice A0_0 l0_0.length c0_0]] ?_;(with_reducible refine (Qc3.calls k _ _ l0_0 true _ (uD HR0_0 HB) HC0_0.out A2.out).mono ?_);rintro e w7 ⟨rfl,hb⟩;refine ⟨_,rfl,?_⟩;replace BK1064:=Aside0.mk (Qc (uK BK1064) hb);replace HB:=Aside0.mk (Qb (uB HB) hb);(try clear hb);have hcz8_0:=bC BK1064;have hfz8_0:=Qf BK1064.out 0)|(refine gA (some 8) Tryz.func155 #[.agg #[.slice A0_0 l0_0.length c0_0]] ?_;(with_reducible refine (Q0.calls k _ _ l0_0 t1066 _ (uD HR0_0 HB) HC0_0.out A4.out).mono ?_);rintro e w9 ⟨v1067,rfl,ho0,hb⟩;refine ⟨_,rfl,?_⟩;have HO1068:=Aside0.mk (Kd.R_lower ho0 (Qj (uB HB)));replace BK1064:=Aside0.mk (Qc (uK BK1064) hb);replace HB:=Aside0.mk (Qb (uB HB) hb);(try clear hb ho0)))
  go_ret2
  exact ⟨_,by first|rfl|(simp [Qd,Qe] <;>rfl)|(simp [*,Qd,Qe] <;>rfl),uR HO1068,uB HB⟩
 ·
  replace c3:=Bool.eq_false_iff.mpr c3;subst c3;rw [if_neg (show ¬ (false=true) by decide)] at H;simp only [Option.some.injEq,Prod.mk.injEq] at H;obtain ⟨rfl,rfl⟩:=H;go_enter Tryz.func88,Tryz.ntmps88;go_wp2_with (first|(refine bE (N:=1) (cs:= #[.slice A0_0 l0_0.length c0_0]) (t:=26) ?_;intro gb1064 hg w10 hbox hb;have BK1064:=Aside0.mk (hbox);have GW1064:=Aside0.mk ((gV hg (uB HB)));have GE1064:=GW1064;replace HB:=Aside0.mk (Qb (uB HB) hb);clear hb hbox hg;have hcz11_0:=bC BK1064;have hfz11_0:=Qf BK1064.out 0)|(refine gA (some 5) Tryz.func165 #[.agg #[.slice A0_0 l0_0.length c0_0]] ?_;(with_reducible refine (Qc3.calls k _ _ l0_0 false _ (uD HR0_0 HB) HC0_0.out A2.out).mono ?_);rintro e w12 ⟨rfl,hb⟩;refine ⟨_,rfl,?_⟩;replace BK1064:=Aside0.mk (Qc (uK BK1064) hb);replace HB:=Aside0.mk (Qb (uB HB) hb);(try clear hb)))
  go_ret2
  exact ⟨_,by first|rfl|(simp [Qd,Qe] <;>rfl)|(simp [*,Qd,Qe] <;>rfl),by first|exact Kd.R_nil _ _ _ _ _|exact Kd.N_nil _ _ _ _ _|exact Kd.V_nil _ _ _ _ _|exact Kd.Q_nil _ _ _ _ _|exact Kd.S_nil _ _ _ _ _,uB HB⟩
def Qdd.f (k : Nat) (l0 : List Int) : Option (List Int × Int) := (Qcs.f k l0).bind fun bt1070 => (some (bt1070.1, bt1070.2))
theorem Qdd.mono : ∀ a0 k, LeO (Qdd.f k a0) (Qdd.f (k + 1) a0) := by
 intro a0 k;unfold Qdd.f
 repeat' (with_reducible first|apply Qcs.mono|exact LeO.refl _|exact LeO.none _|refine LeO.ite ?_ ?_|refine LeO.bind ?_ (fun _=> ?_))
set_option maxHeartbeats 8000000 in
set_option maxRecDepth 100000 in
theorem Qdd.calls (k : Nat) (A0 : Option Addr) (c0 : Nat) (l0 : List Int) (r1 : List Int) (r2 : Int) (w : World) (hr0 : Kd.C (Kd.int .u8) w A0 l0.length l0) (hc0 : l0.length ≤ c0) (h : Qdd.f k l0 = some (r1, r2)) :
 Calls Tryz.prog 89 #[.slice A0 l0.length c0] w fun e w'=> ∃ v0_:Value,e= .returned (.tuple #[.agg #[v0_], .int .i64 r2])∧Kd.R (Kd.int .i64) 3 w' w.heap.size (fun _=>True) v0_ r1∧Below w.heap.size w w':=by
 have hu26:=Tryz.underlying26;have HR0:=Aside0.mk hr0;have HC0:=Aside0.mk hc0;clear hr0 hc0;have HB:=Aside0.mk (Below.refl w.heap.size w);have H:((Qcs.f k l0).bind fun bt1070=>(some (bt1070.1,bt1070.2)))=some (r1,r2):=h;clear h;obtain ⟨⟨t1070,t1073⟩,A2,H⟩:=bs H;(try dsimp only at H)
 simp only [Option.some.injEq,Prod.mk.injEq] at H;obtain ⟨rfl,rfl⟩:=H;go_enter Tryz.func89,Tryz.ntmps89;go_wp2_with (first|(refine bE (N:=2) (cs:= #[.slice none 0 0]) (t:=26) ?_;intro gb1069 hg w3 hbox hb;have BK1069:=Aside0.mk (hbox);have GW1069:=Aside0.mk ((gV hg (uB HB)));have GE1069:=GW1069;replace HB:=Aside0.mk (Qb (uB HB) hb);clear hb hbox hg)|(refine gA (some 5) Tryz.func78 #[.slice A0 l0.length c0] ?_;(with_reducible refine (Qcs.calls k _ _ l0 t1070 t1073 _ (uD HR0 HB) HC0.out A2.out).mono ?_);rintro e w4 ⟨v1071,rfl,ho0,hb⟩;refine ⟨_,rfl,?_⟩;have HO1072:=Aside0.mk (Kd.R_lower ho0 (Qj (uB HB)));replace BK1069:=Aside0.mk (Qc (uK BK1069) hb);replace HB:=Aside0.mk (Qb (uB HB) hb);(try clear hb ho0);obtain ⟨Ao5,co5,eo5⟩:=Kd.R_slice HO1072.out;subst eo5;have hcz6_0:=bC BK1069;have hfz6_0:=Qf BK1069.out 0));refine bodyPost_ret (Qfg rfl _ _ gb1069 26 #[.slice Ao5 t1070.length co5] (0,0) _ rfl (by (with_reducible repeat (first|refine Qn ?_ _|refine Ql ?_|refine Qm ?_ _));refine Qcw (cs:= #[.slice none 0 0]) ?_ 0 _ rfl;(with_reducible repeat (first|refine Qn ?_ _|refine Ql ?_|refine Qm ?_ _));exact BK1069.out) Tryz.underlying26 rfl (by kernel_rfl)) rfl ?_;exact ⟨_,by first|rfl|(simp [Qd,Qe] <;>rfl)|(simp [*,Qd,Qe] <;>rfl),by (with_reducible repeat (first|apply Kd.R_alloc|apply Kd.R_drewN|apply Kd.R_drew));exact Kd.R_mono (Kd.R_far (p:=⟨gb1069,0,none⟩) (Kd.R_types HO1072.out BK1069.out (by decide)) (fun _ hk=>hk.2) (.slice Ao5 t1070.length co5)) (fun _ hk=>trivial),(vB HB)⟩
def Qdv.f (k : Nat) (l0_0 : List Int) : Option (Int) := (Q9.f k l0_0).bind fun t481 => (some (wrap64 ((t481.length : Int) - 1)))
theorem Qdv.mono : ∀ a0 k, LeO (Qdv.f k a0) (Qdv.f (k + 1) a0) := by
 intro a0 k;unfold Qdv.f
 repeat' (with_reducible first|apply Q9.mono|exact LeO.refl _|exact LeO.none _|refine LeO.ite ?_ ?_|refine LeO.bind ?_ (fun _=> ?_))
set_option maxHeartbeats 8000000 in
set_option maxRecDepth 100000 in
theorem Qdv.calls (k : Nat) (A0_0 : Option Addr) (c0_0 : Nat) (l0_0 : List Int) (r : Int) (w : World) (hr0_0 : Kd.C (Kd.int .i64) w A0_0 l0_0.length l0_0) (hc0_0 : l0_0.length ≤ c0_0) (h : Qdv.f k l0_0 = some r) :
 Calls Tryz.prog 151 #[.agg #[.slice A0_0 l0_0.length c0_0]] w fun e w'=>e= .returned (.int .i64 r)∧Below w.heap.size w w':=by
 have hu26:=Tryz.underlying26;have HR0_0:=Aside0.mk hr0_0;have HC0_0:=Aside0.mk hc0_0;clear hr0_0 hc0_0;have HB:=Aside0.mk (Below.refl w.heap.size w);have H:((Q9.f k l0_0).bind fun t481=>(some (wrap64 ((t481.length:Int) - 1))))=some r:=h;clear h;obtain ⟨t481,A2,H⟩:=bs H;(try dsimp only at H)
 obtain rfl:=Option.some.inj H;go_enter Tryz.func151,Tryz.ntmps151;go_wp2_with (first|(refine bE (N:=1) (cs:= #[.slice A0_0 l0_0.length c0_0]) (t:=26) ?_;intro gb480 hg w3 hbox hb;have BK480:=Aside0.mk (hbox);have GW480:=Aside0.mk ((gV hg (uB HB)));have GE480:=GW480;replace HB:=Aside0.mk (Qb (uB HB) hb);clear hb hbox hg;have hcz4_0:=bC BK480;have hfz4_0:=Qf BK480.out 0)|(refine gA (some 4) Tryz.func157 #[.agg #[.slice A0_0 l0_0.length c0_0]] ?_;(with_reducible refine (Q9.calls k _ _ l0_0 t481 _ (uD HR0_0 HB) HC0_0.out A2.out).mono ?_);rintro e w5 ⟨v482,rfl,ho0,hb⟩;refine ⟨_,rfl,?_⟩;have HO483:=Aside0.mk (Kd.R_lower ho0 (Qj (uB HB)));replace BK480:=Aside0.mk (Qc (uK BK480) hb);replace HB:=Aside0.mk (Qb (uB HB) hb);(try clear hb ho0);obtain ⟨Ao6,co6,eo6⟩:=Kd.R_slice HO483.out;subst eo6))
 go_ret
 exact ⟨by first|rfl|(simp [Qd,Qe] <;>rfl)|(simp [*,Qd,Qe] <;>rfl),uB HB⟩
end Go.Proofs.YtkgngggppcmpfaaGreat.L
end
