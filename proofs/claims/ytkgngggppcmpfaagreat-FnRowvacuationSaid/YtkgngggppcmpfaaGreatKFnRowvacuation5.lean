/- Laws about the given program: the law FnRowvacuation answers true for every input that its row lets in; no condition is added to the given statement. Contracts of the Go functions that it reaches, and the plain proof over lists. -/
import Derived.Test.YtkgngggppcmpfaaGreatWFnRowvacuation0
import Derived.Test.YtkgngggppcmpfaaGreatKFnRowvacuation0
import Derived.Test.YtkgngggppcmpfaaGreatKFnRowvacuation1
import Derived.Test.YtkgngggppcmpfaaGreatKFnRowvacuation2
import Derived.Test.YtkgngggppcmpfaaGreatKFnRowvacuation3
import Derived.Test.YtkgngggppcmpfaaGreatKFnRowvacuation4
section
namespace Go.Proofs.YtkgngggppcmpfaaGreat.L
open Go.RowKit Go.Proofs.YtkgngggppcmpfaaGreatW.PrintWords Go.Proofs.YtkgngggppcmpfaaGreatW.PrintLast Go.Proofs.YtkgngggppcmpfaaGreatW.PrintMore Go.Proofs.YtkgngggppcmpfaaGreat.X
attribute [local go_sem] Qt Qv Q2 Q3 Qm Qn Qu Qw
set_option linter.unusedVariables false
set_option linter.unusedSimpArgs false
def Qbs.f (k : Nat) (l0_0 : List Int) (a1 : Int) : Option (Int × Bool) := (Qb6.f k l0_0 a1).bind fun t485 => (if t485 = true then ((Qcg.f k l0_0).bind fun t486 => ((Qba.f k t486).bind fun t487 => ((Ql.f k l0_0 a1 t487).bind fun t490 => (some (t490, true))))) else (some (0, false)))
theorem Qbs.mono : ∀ a0 a1 k, LeO (Qbs.f k a0 a1) (Qbs.f (k + 1) a0 a1) := by
 intro a0 a1 k;unfold Qbs.f
 repeat' (with_reducible first|apply Qcg.mono|apply Ql.mono|apply Qb6.mono|apply Qba.mono|exact LeO.refl _|exact LeO.none _|refine LeO.ite ?_ ?_|refine LeO.bind ?_ (fun _=> ?_))
def Qbs.T3 : Bool × List (List Nat × List Nat) := (true, [([], []), ([], []), ([], []), ([2], [2]), ([3, 3], [3]), ([0, 1, 4, 4], [0, 1, 4]), ([5, 5, 0, 1, 2, 3, 4, 5], [5]), ([6, 0, 1, 2, 3, 4, 5, 6], [])])
def Qbs.B3 : List Nat := [0, 0, 0, 4, 12, 31, 63, 127]
theorem Qbs.tab3 : rtab .any (Qf2 Tryz.f12 3) = Qbs.T3 := by kernel_rfl
theorem Qbs.bits3 : Qd9 Qbs.T3.2 Qbs.B3 = true := by kernel_rfl
set_option maxHeartbeats 8000000 in
set_option maxRecDepth 100000 in
theorem Qbs.calls (k : Nat) (A0_0 : Option Addr) (c0_0 : Nat) (l0_0 : List Int) (a1 : Int) (r1 : Int) (r2 : Bool) (w : World) (hr0_0 : Kd.C (Kd.int .i64) w A0_0 l0_0.length l0_0) (hc0_0 : l0_0.length ≤ c0_0) (h : Qbs.f k l0_0 a1 = some (r1, r2)) :
 Calls Tryz.prog 12 #[.agg #[.slice A0_0 l0_0.length c0_0], .int .i64 a1] w fun e w'=>e= .returned (.tuple #[.int .i64 r1, .bool r2])∧Below w.heap.size w w':=by
 have hu26:=Tryz.underlying26;have HR0_0:=Aside0.mk hr0_0;have HC0_0:=Aside0.mk hc0_0;clear hr0_0 hc0_0;have HB:=Aside0.mk (Below.refl w.heap.size w);have H:((Qb6.f k l0_0 a1).bind fun t485=>(if t485=true then ((Qcg.f k l0_0).bind fun t486=>((Qba.f k t486).bind fun t487=>((Ql.f k l0_0 a1 t487).bind fun t490=>(some (t490,true))))) else (some (0,false))))=some (r1,r2):=h;clear h;obtain ⟨t485,A3,H⟩:=bs H;(try dsimp only at H)
 by_cases c4:t485=true
 ·
  subst c4;rw [if_pos rfl] at H;obtain ⟨t486,A5,H⟩:=bs H;(try dsimp only at H)
  obtain ⟨t487,A6,H⟩:=bs H;(try dsimp only at H)
  obtain ⟨t490,A7,H⟩:=bs H;(try dsimp only at H)
  simp only [Option.some.injEq,Prod.mk.injEq] at H;obtain ⟨rfl,rfl⟩:=H;go_enter Tryz.func12,Tryz.ntmps12
  try go_wp2_with (first|(refine bE (N:=2) (cs:= #[.slice A0_0 l0_0.length c0_0]) (t:=26) ?_;intro gb484 hg w8 hbox hb;have BK484:=Aside0.mk (hbox);have GW484:=Aside0.mk ((gV hg (uB HB)));have GE484:=GW484;replace HB:=Aside0.mk (Qa (uB HB) hb);clear hb hbox hg;have hcz9_0:=bC BK484;have hfz9_0:=Qf BK484.out 0)|(refine gA (some 8) Tryz.func148 #[.agg #[.slice A0_0 l0_0.length c0_0], .int .i64 a1] ?_;(with_reducible refine (Qb6.calls k _ _ l0_0 a1 true _ (uD HR0_0 HB) HC0_0.out A3.out).mono ?_);rintro e w10 ⟨rfl,hb⟩;refine ⟨_,rfl,?_⟩;replace BK484:=Aside0.mk (Qc (uK BK484) hb);replace HB:=Aside0.mk (Qa (uB HB) hb);(try clear hb)))
  replace BK484:=Aside0.mk (Qj BK484.out);replace HB:=Aside0.mk (Qy HB.out);refine sU (n:=8) (S:=fun w'=>w'.cell? ⟨gb484,0,none⟩=some (.slice A0_0 l0_0.length c0_0)) (ds:= []) ((Qci BK484.out 0).trans rfl) (fun hHeld=> ?_);refine Qeg Qbs.tab3 Qbs.bits3 (fun HT_ HW_=> ?_);generalize w10.drew=w11 at BK484 HB hHeld ⊢;refine pU 1 11 ?_;refine tU 0 10 hHeld ?_;refine tU 2 12 hHeld ?_;refine oU 3 (some 13) fun K hK=> ?_
  refine Qes Tryz.func151 (by kernel_rfl) rfl #[.agg #[.slice A0_0 l0_0.length c0_0]] (by rfl) rfl rfl (by (try simp only [List.map_toArray,List.map_cons,List.map_nil]);first|done|rfl|(simp only [List.length_drop,List.length_take];rfl)) ?_
  with_reducible refine (Qcg.calls k _ _ l0_0 t486 _ ?side1 ?side2 A5.out).mono ?_
  (case side1=>repeat (first|exact (Kd.C_below HR0_0.out HB.out)|(with_reducible refine Kd.C_alloc ?_ _)|(with_reducible refine Kd.C_drewN ?_ _)|(with_reducible refine Kd.C_drew ?_)))
  (case side2=>exact HC0_0.out)
  rintro e w12 ⟨rfl,hb⟩;refine ⟨_,rfl,?_⟩;replace BK484:=Aside0.mk (Qc (uK BK484) hb);replace HB:=Aside0.mk (Qa (uB HB) hb)
  skip
  skip
  skip
  skip
  refine hK.out _ _ ((Qci BK484.out 0).trans rfl) (fun hHeld=> ?_);clear hK K;refine nU 13 ?_;refine oU 4 (some 14) fun K hK=> ?_
  refine Qes Tryz.func150 (by kernel_rfl) rfl #[.int .i64 t486] (by rfl) rfl rfl (by (try simp only [List.map_toArray,List.map_cons,List.map_nil]);first|done|rfl|(simp only [List.length_drop,List.length_take];rfl)) ?_
  with_reducible refine (Qba.calls k t486 t487 _ A6.out).mono ?_
  rintro e w13 ⟨v488,rfl,ho0,hb⟩;refine ⟨_,rfl,?_⟩;have HO489:=Aside0.mk (Kd.R_lower ho0 (Qp (uB HB)));replace BK484:=Aside0.mk (Qc (uK BK484) hb);replace HB:=Aside0.mk (Qa (uB HB) hb)
  skip
  skip
  skip
  skip
  skip
  obtain ⟨Ao14,co14,eo14⟩:=Kd.R_slice HO489.out
  (first|subst eo14|(injection eo14 with f1_ f2_ f3_;have f4_:=f1_.symm;have f5_:=f3_.symm;clear f1_ f2_ f3_;subst f4_;subst f5_))
  refine hK.out _ _ ((Qci BK484.out 0).trans rfl) (fun hHeld=> ?_);clear hK K;refine nU 14 ?_;refine oU 5 (some 15) fun K hK=> ?_
  refine Qes Tryz.func149 (by kernel_rfl) rfl #[.agg #[.slice A0_0 l0_0.length c0_0], .int .i64 a1, .slice Ao14 t487.length co14] (by rfl) rfl rfl (by (try simp only [List.map_toArray,List.map_cons,List.map_nil]);first|done|rfl|(simp only [List.length_drop,List.length_take];rfl)) ?_
  with_reducible refine (Ql.calls k _ _ l0_0 a1 _ _ t487 t490 _ ?side1 ?side2 ?side3 ?side4 A7.out).mono ?_
  (case side1=>repeat (first|exact (Kd.C_below HR0_0.out HB.out)|(with_reducible refine Kd.C_alloc ?_ _)|(with_reducible refine Kd.C_drewN ?_ _)|(with_reducible refine Kd.C_drew ?_)))
  (case side2=>exact HC0_0.out)
  (case side3=>repeat (first|exact (Kd.R_reads' HO489.out).2.2|(with_reducible refine Kd.C_alloc ?_ _)|(with_reducible refine Kd.C_drewN ?_ _)|(with_reducible refine Kd.C_drew ?_)))
  (case side4=>exact (Kd.R_reads' HO489.out).2.1)
  rintro e w15 ⟨rfl,hb⟩;refine ⟨_,rfl,?_⟩;replace HO489:=Aside0.mk (Kd.R_below (uR HO489) hb);replace BK484:=Aside0.mk (Qc (uK BK484) hb);replace HB:=Aside0.mk (Qa (uB HB) hb)
  skip
  skip
  skip
  skip
  refine hK.out _ _ ((Qci BK484.out 0).trans rfl) (fun hHeld=> ?_);clear hK K;refine nU 15 ?_;refine pU 6 4 ?_;refine pU 7 5 ?_;refine dU ?_
  try go_wp2
  go_ret2
  exact ⟨by first|rfl|(simp [Qd,Qe] <;>rfl)|(simp [*,Qd,Qe] <;>rfl),uB HB⟩
 ·
  replace c4:=Bool.eq_false_iff.mpr c4;subst c4;rw [if_neg (show ¬ (false=true) by decide)] at H;simp only [Option.some.injEq,Prod.mk.injEq] at H;obtain ⟨rfl,rfl⟩:=H;go_enter Tryz.func12,Tryz.ntmps12;go_wp2_with (first|(refine bE (N:=2) (cs:= #[.slice A0_0 l0_0.length c0_0]) (t:=26) ?_;intro gb484 hg w16 hbox hb;have BK484:=Aside0.mk (hbox);have GW484:=Aside0.mk ((gV hg (uB HB)));have GE484:=GW484;replace HB:=Aside0.mk (Qa (uB HB) hb);clear hb hbox hg;have hcz17_0:=bC BK484;have hfz17_0:=Qf BK484.out 0)|(refine gA (some 8) Tryz.func148 #[.agg #[.slice A0_0 l0_0.length c0_0], .int .i64 a1] ?_;(with_reducible refine (Qb6.calls k _ _ l0_0 a1 false _ (uD HR0_0 HB) HC0_0.out A3.out).mono ?_);rintro e w18 ⟨rfl,hb⟩;refine ⟨_,rfl,?_⟩;replace BK484:=Aside0.mk (Qc (uK BK484) hb);replace HB:=Aside0.mk (Qa (uB HB) hb);(try clear hb)))
  go_ret2
  exact ⟨by first|rfl|(simp [Qd,Qe] <;>rfl)|(simp [*,Qd,Qe] <;>rfl),uB HB⟩
def Qc2.f (k : Nat) (l0_0 : List Int) : Option (Bool) := (Qbb.f k l0_0).bind fun t492 => (if t492 = true then ((Qca.f k l0_0).bind fun t493 => (some t493)) else (some false))
theorem Qc2.mono : ∀ a0 k, LeO (Qc2.f k a0) (Qc2.f (k + 1) a0) := by
 intro a0 k;unfold Qc2.f
 repeat' (with_reducible first|apply Qbb.mono|apply Qca.mono|exact LeO.refl _|exact LeO.none _|refine LeO.ite ?_ ?_|refine LeO.bind ?_ (fun _=> ?_))
set_option maxHeartbeats 8000000 in
set_option maxRecDepth 100000 in
theorem Qc2.calls (k : Nat) (A0_0 : Option Addr) (c0_0 : Nat) (l0_0 : List Int) (r : Bool) (w : World) (hr0_0 : Kd.C (Kd.int .i64) w A0_0 l0_0.length l0_0) (hc0_0 : l0_0.length ≤ c0_0) (h : Qc2.f k l0_0 = some r) :
 Calls Tryz.prog 165 #[.agg #[.slice A0_0 l0_0.length c0_0]] w fun e w'=>e= .returned (.bool r)∧Below w.heap.size w w':=by
 have hu26:=Tryz.underlying26;have HR0_0:=Aside0.mk hr0_0;have HC0_0:=Aside0.mk hc0_0;clear hr0_0 hc0_0;have HB:=Aside0.mk (Below.refl w.heap.size w);have H:((Qbb.f k l0_0).bind fun t492=>(if t492=true then ((Qca.f k l0_0).bind fun t493=>(some t493)) else (some false)))=some r:=h;clear h;obtain ⟨t492,A2,H⟩:=bs H;(try dsimp only at H)
 by_cases c3:t492=true
 ·
  subst c3;rw [if_pos rfl] at H;obtain ⟨t493,A4,H⟩:=bs H;(try dsimp only at H)
  obtain rfl:=Option.some.inj H;go_enter Tryz.func165,Tryz.ntmps165;go_wp2_with (first|(refine bE (N:=1) (cs:= #[.slice A0_0 l0_0.length c0_0]) (t:=26) ?_;intro gb491 hg w5 hbox hb;have BK491:=Aside0.mk (hbox);have GW491:=Aside0.mk ((gV hg (uB HB)));have GE491:=GW491;replace HB:=Aside0.mk (Qa (uB HB) hb);clear hb hbox hg;have hcz6_0:=bC BK491;have hfz6_0:=Qf BK491.out 0)|(refine gA (some 4) Tryz.func183 #[.agg #[.slice A0_0 l0_0.length c0_0]] ?_;(with_reducible refine (Qbb.calls k _ _ l0_0 true _ (uD HR0_0 HB) HC0_0.out A2.out).mono ?_);rintro e w7 ⟨rfl,hb⟩;refine ⟨_,rfl,?_⟩;replace BK491:=Aside0.mk (Qc (uK BK491) hb);replace HB:=Aside0.mk (Qa (uB HB) hb);(try clear hb);have hcz8_0:=bC BK491;have hfz8_0:=Qf BK491.out 0)|(go_at_call 285;(with_reducible refine (Qca.calls k _ _ l0_0 t493 _ (uD HR0_0 HB) HC0_0.out A4.out).mono ?_);rintro e w9 ⟨rfl,hb⟩;replace BK491:=Aside0.mk (Qc (uK BK491) hb);replace HB:=Aside0.mk (Qa (uB HB) hb);(try clear hb)))
  go_ret
  exact ⟨by first|rfl|(simp [Qd,Qe] <;>rfl)|(simp [*,Qd,Qe] <;>rfl),uB HB⟩
 ·
  replace c3:=Bool.eq_false_iff.mpr c3;subst c3;rw [if_neg (show ¬ (false=true) by decide)] at H;obtain rfl:=Option.some.inj H;go_enter Tryz.func165,Tryz.ntmps165;go_wp2_with (first|(refine bE (N:=1) (cs:= #[.slice A0_0 l0_0.length c0_0]) (t:=26) ?_;intro gb491 hg w10 hbox hb;have BK491:=Aside0.mk (hbox);have GW491:=Aside0.mk ((gV hg (uB HB)));have GE491:=GW491;replace HB:=Aside0.mk (Qa (uB HB) hb);clear hb hbox hg;have hcz11_0:=bC BK491;have hfz11_0:=Qf BK491.out 0)|(refine gA (some 4) Tryz.func183 #[.agg #[.slice A0_0 l0_0.length c0_0]] ?_;(with_reducible refine (Qbb.calls k _ _ l0_0 false _ (uD HR0_0 HB) HC0_0.out A2.out).mono ?_);rintro e w12 ⟨rfl,hb⟩;refine ⟨_,rfl,?_⟩;replace BK491:=Aside0.mk (Qc (uK BK491) hb);replace HB:=Aside0.mk (Qa (uB HB) hb);(try clear hb)))
  go_ret
  exact ⟨by first|rfl|(simp [Qd,Qe] <;>rfl)|(simp [*,Qd,Qe] <;>rfl),uB HB⟩
def Qbu.l0 : Nat → Int → List Int → Int → Int → Option (Bool)
 |0,_,_,_,_=>none
 |k+1,x1,x8,x9,x10=>if x10<x9 then (if 0≤x10 then (if x10<(x8.length:Int) then ((Qcq.f x1 x10).bind fun t496=>(if t496=true then (if (Go.bits .andNot .i64 (rd x8 x10) x1)=0 then (Qbu.l0 k x1 x8 x9 (wrap64 (x10+1))) else (some false)) else (Qbu.l0 k x1 x8 x9 (wrap64 (x10+1))))) else (none)) else (none)) else (some true)
def Qbu.f (k : Nat) (l0_0 : List Int) (a1 : Int) : Option (Bool) := Qbu.l0 k a1 l0_0 (l0_0.length : Int) 0
theorem Qbu.mono_l : ∀ k, (∀ y0 y1 y2 y3, LeO (Qbu.l0 k y0 y1 y2 y3) (Qbu.l0 (k + 1) y0 y1 y2 y3))
 |0=>fun _ _ _ _ r h=>by simp [Qbu.l0] at h
 |k+1=>by
  have ih0:=Qbu.mono_l k
  ·
   intro y0 y1 y2 y3;unfold Qbu.l0
   repeat' first
   |(with_reducible exact ih0 _ _ _ _)
   |(with_reducible exact LeO.refl _)
   |(with_reducible exact LeO.none _)
   |(with_reducible refine LeO.ite ?_ ?_)
   |(with_reducible refine LeO.bind ?_ (fun _=> ?_))
   |exact ih0 _ _ _ _
   |exact LeO.none _
   |refine LeO.ite ?_ ?_
   |refine LeO.bind ?_ (fun _=> ?_)
theorem Qbu.mono : ∀ a0 a1 k, LeO (Qbu.f k a0 a1) (Qbu.f (k + 1) a0 a1) := by
 intro a0 a1 k;have ih0:=Qbu.mono_l k;unfold Qbu.f
 repeat' (with_reducible first|apply ih0|exact LeO.refl _|exact LeO.none _|refine LeO.ite ?_ ?_|refine LeO.bind ?_ (fun _=> ?_))
set_option maxHeartbeats 8000000 in
set_option maxRecDepth 100000 in
theorem Qbu.calls (k : Nat) (A0_0 : Option Addr) (c0_0 : Nat) (l0_0 : List Int) (a1 : Int) (r : Bool) (w : World) (hr0_0 : Kd.C (Kd.int .i64) w A0_0 l0_0.length l0_0) (hc0_0 : l0_0.length ≤ c0_0) (h : Qbu.f k l0_0 a1 = some r) :
 Calls Tryz.prog 278 #[.agg #[.slice A0_0 l0_0.length c0_0], .int .i64 a1] w fun e w'=>e= .returned (.bool r)∧Below w.heap.size w w':=by
 have hu26:=Tryz.underlying26;have HR0_0:=Aside0.mk hr0_0;have HC0_0:=Aside0.mk hc0_0;clear hr0_0 hc0_0;have HB:=Aside0.mk (Below.refl w.heap.size w);have H:(Qbu.l0 k a1 l0_0 (l0_0.length:Int) 0)=some r:=h;clear h;have H':=Aside0.mk H;clear H;go_enter Tryz.func278,Tryz.ntmps278;go_wp2_with (first|(refine bE (N:=2) (cs:= #[.slice A0_0 l0_0.length c0_0]) (t:=26) ?_;intro gb494 hg w3 hbox hb;have BK494:=Aside0.mk (hbox);have GW494:=Aside0.mk ((gV hg (uB HB)));have GE494:=GW494;replace HB:=Aside0.mk (Qa (uB HB) hb);clear hb hbox hg;have hcz4_0:=bC BK494;have hfz4_0:=Qf BK494.out 0))
 go_loopg [10] k (fun kq v10 w'=> ∃ (x10_1:Int),v10= .int .i64 x10_1∧Aside0 (Qbu.l0 kq a1 l0_0 (l0_0.length:Int) x10_1=some r)∧Aside0 (kq≤k)∧Aside0 (w'.heap[gb494]? =some (.cells #[(.slice A0_0 l0_0.length c0_0)] 26 (0,0)))∧Aside0 (Below w.heap.size w w'))
 case atStart=>exact ⟨(0),(by first|rfl|(simp;done)|(simp [*];done)),H',⟨Nat.le_refl _⟩,⟨uK BK494⟩,⟨uB HB⟩⟩
 case round=>
  clear H'
  try clear c2
  try clear p2
  try clear hcz4_0
  try clear hfz4_0
  obtain ⟨x10_1,rfl,HA,HK1,BK494,HB⟩:=hrel;cases gk with
  |zero=>exact absurd HA.out (by simp [Qbu.l0])
  |succ k1=>
   have H:=HA.out;clear HA;simp only [Qbu.l0] at H
   by_cases c5:x10_1<(l0_0.length:Int)
   ·
    rw [if_pos c5] at H;have c5b0:=decide_eq_true c5;clear c5
    by_cases c6:0≤x10_1
    ·
     rw [if_pos c6] at H;have c6b0:=decide_eq_true c6;clear c6
     by_cases c7:x10_1<(l0_0.length:Int)
     ·
      rw [if_pos c7] at H;have c7b0:=decide_eq_true c7;clear c7;obtain ⟨t496,A8,H⟩:=bs H;(try dsimp only at H)
      by_cases c9:t496=true
      ·
       subst c9;rw [if_pos rfl] at H
       by_cases c10:(Go.bits .andNot .i64 (rd l0_0 x10_1) a1)=0
       ·
        rw [if_pos c10] at H;have c10b0:((Go.bits .andNot .i64 (rd l0_0 x10_1) a1)==0)=true:=beq_iff_eq.mpr c10;have c10b1:((Go.bits .andNot .i64 (rd l0_0 x10_1) a1) !=0)=false:=bne_eq_false_iff_eq.mpr c10;clear c10;have H':=Aside0.mk H;clear H;have p495:0≤(x10_1:Int):=of_decide_eq_true (by first|(with_reducible assumption)|assumption);have q495:x10_1<(l0_0.length:Int):=of_decide_eq_true (by first|(with_reducible assumption)|assumption);obtain ⟨ad495,e495,hx495_0⟩:=Kd.at_int HR0_0.out x10_1 p495 q495;cases e495;replace hx495_0:=(HB.out.cell (World.block_lt_of_cell? w _ hx495_0)).trans hx495_0;replace p495:=eq_true p495;replace q495:=eq_true q495;go_wp2_with (first|(refine gA (some 17) Tryz.func253 #[.int .i64 a1, .int .i64 x10_1] ?_;(with_reducible refine (Qcq.calls a1 x10_1 true _ A8.out).mono ?_);rintro e w' ⟨rfl,⟨nd,rfl⟩⟩;refine ⟨_,rfl,?_⟩));go_roundg k1
        case measure=>have:=HK1.out;omega
        case rel=>exact ⟨(wrap64 (x10_1+1)),(by first|rfl|(simp;done)|(simp [*];done)),H',⟨by have:=HK1.out;omega⟩,⟨uK BK494⟩,⟨uB HB⟩⟩
       ·
        rw [if_neg c10] at H;have c10b0:((Go.bits .andNot .i64 (rd l0_0 x10_1) a1)==0)=false:=beq_eq_false_iff_ne.mpr c10;have c10b1:((Go.bits .andNot .i64 (rd l0_0 x10_1) a1) !=0)=true:=bne_iff_ne.mpr c10;obtain rfl:=Option.some.inj H;have p495:0≤(x10_1:Int):=of_decide_eq_true (by first|(with_reducible assumption)|assumption);have q495:x10_1<(l0_0.length:Int):=of_decide_eq_true (by first|(with_reducible assumption)|assumption);obtain ⟨ad495,e495,hx495_0⟩:=Kd.at_int HR0_0.out x10_1 p495 q495;cases e495;replace hx495_0:=(HB.out.cell (World.block_lt_of_cell? w _ hx495_0)).trans hx495_0;replace p495:=eq_true p495;replace q495:=eq_true q495;go_wp2_with (first|(refine gA (some 17) Tryz.func253 #[.int .i64 a1, .int .i64 x10_1] ?_;(with_reducible refine (Qcq.calls a1 x10_1 true _ A8.out).mono ?_);rintro e w' ⟨rfl,⟨nd,rfl⟩⟩;refine ⟨_,rfl,?_⟩))
        go_ret
        exact ⟨by first|rfl|(simp [Qd,Qe] <;>rfl)|(simp [*,Qd,Qe] <;>rfl),uB HB⟩
      ·
       replace c9:=Bool.eq_false_iff.mpr c9;subst c9;rw [if_neg (show ¬ (false=true) by decide)] at H;have H':=Aside0.mk H;clear H;have p495:0≤(x10_1:Int):=of_decide_eq_true (by first|(with_reducible assumption)|assumption);have q495:x10_1<(l0_0.length:Int):=of_decide_eq_true (by first|(with_reducible assumption)|assumption);obtain ⟨ad495,e495,hx495_0⟩:=Kd.at_int HR0_0.out x10_1 p495 q495;cases e495;replace hx495_0:=(HB.out.cell (World.block_lt_of_cell? w _ hx495_0)).trans hx495_0;replace p495:=eq_true p495;replace q495:=eq_true q495;go_wp2_with (first|(refine gA (some 17) Tryz.func253 #[.int .i64 a1, .int .i64 x10_1] ?_;(with_reducible refine (Qcq.calls a1 x10_1 false _ A8.out).mono ?_);rintro e w' ⟨rfl,⟨nd,rfl⟩⟩;refine ⟨_,rfl,?_⟩));go_roundg k1
       case measure=>have:=HK1.out;omega
       case rel=>exact ⟨(wrap64 (x10_1+1)),(by first|rfl|(simp;done)|(simp [*];done)),H',⟨by have:=HK1.out;omega⟩,⟨uK BK494⟩,⟨uB HB⟩⟩
     ·
      rw [if_neg c7] at H;exact absurd H (by simp)
    ·
     rw [if_neg c6] at H;exact absurd H (by simp)
   ·
    rw [if_neg c5] at H;have c5b0:=decide_eq_false c5;clear c5;obtain rfl:=Option.some.inj H;go_wp2
    go_ret
    exact ⟨by first|rfl|(simp [Qd,Qe] <;>rfl)|(simp [*,Qd,Qe] <;>rfl),uB HB⟩
def Qdi.f (k : Nat) (l0_0 : List Int) (a1 : Int) : Option (Bool) := (Qc2.f k l0_0).bind fun t498 => (if t498 = true then ((Qdo.f l0_0 a1).bind fun t499 => (if t499 = true then ((Qbu.f k l0_0 a1).bind fun t500 => (some t500)) else (some false))) else (some false))
theorem Qdi.mono : ∀ a0 a1 k, LeO (Qdi.f k a0 a1) (Qdi.f (k + 1) a0 a1) := by
 intro a0 a1 k;unfold Qdi.f
 repeat' (with_reducible first|apply Qbu.mono|apply Qc2.mono|exact LeO.refl _|exact LeO.none _|refine LeO.ite ?_ ?_|refine LeO.bind ?_ (fun _=> ?_))
set_option maxHeartbeats 8000000 in
set_option maxRecDepth 100000 in
theorem Qdi.calls (k : Nat) (A0_0 : Option Addr) (c0_0 : Nat) (l0_0 : List Int) (a1 : Int) (r : Bool) (w : World) (hr0_0 : Kd.C (Kd.int .i64) w A0_0 l0_0.length l0_0) (hc0_0 : l0_0.length ≤ c0_0) (h : Qdi.f k l0_0 a1 = some r) :
 Calls Tryz.prog 152 #[.agg #[.slice A0_0 l0_0.length c0_0], .int .i64 a1] w fun e w'=>e= .returned (.bool r)∧Below w.heap.size w w':=by
 have hu26:=Tryz.underlying26;have HR0_0:=Aside0.mk hr0_0;have HC0_0:=Aside0.mk hc0_0;clear hr0_0 hc0_0;have HB:=Aside0.mk (Below.refl w.heap.size w);have H:((Qc2.f k l0_0).bind fun t498=>(if t498=true then ((Qdo.f l0_0 a1).bind fun t499=>(if t499=true then ((Qbu.f k l0_0 a1).bind fun t500=>(some t500)) else (some false))) else (some false)))=some r:=h;clear h;obtain ⟨t498,A3,H⟩:=bs H;(try dsimp only at H)
 by_cases c4:t498=true
 ·
  subst c4;rw [if_pos rfl] at H;obtain ⟨t499,A5,H⟩:=bs H;(try dsimp only at H)
  by_cases c6:t499=true
  ·
   subst c6;rw [if_pos rfl] at H;obtain ⟨t500,A7,H⟩:=bs H;(try dsimp only at H)
   obtain rfl:=Option.some.inj H;go_enter Tryz.func152,Tryz.ntmps152;go_wp2_with (first|(refine bE (N:=2) (cs:= #[.slice A0_0 l0_0.length c0_0]) (t:=26) ?_;intro gb497 hg w8 hbox hb;have BK497:=Aside0.mk (hbox);have GW497:=Aside0.mk ((gV hg (uB HB)));have GE497:=GW497;replace HB:=Aside0.mk (Qa (uB HB) hb);clear hb hbox hg;have hcz9_0:=bC BK497;have hfz9_0:=Qf BK497.out 0)|(refine gA (some 6) Tryz.func165 #[.agg #[.slice A0_0 l0_0.length c0_0]] ?_;(with_reducible refine (Qc2.calls k _ _ l0_0 true _ (uD HR0_0 HB) HC0_0.out A3.out).mono ?_);rintro e w10 ⟨rfl,hb⟩;refine ⟨_,rfl,?_⟩;replace BK497:=Aside0.mk (Qc (uK BK497) hb);replace HB:=Aside0.mk (Qa (uB HB) hb);(try clear hb);have hcz11_0:=bC BK497;have hfz11_0:=Qf BK497.out 0)|(go_at_call 199;(with_reducible refine (Qdo.calls _ _ l0_0 a1 true _ (uD HR0_0 HB) HC0_0.out A5.out).mono ?_);rintro e w12 ⟨rfl,hb⟩;replace BK497:=Aside0.mk (Qc (uK BK497) hb);replace HB:=Aside0.mk (Qa (uB HB) hb);(try clear hb);have hcz13_0:=bC BK497;have hfz13_0:=Qf BK497.out 0)|(go_at_call 278;(with_reducible refine (Qbu.calls k _ _ l0_0 a1 t500 _ (uD HR0_0 HB) HC0_0.out A7.out).mono ?_);rintro e w14 ⟨rfl,hb⟩;replace BK497:=Aside0.mk (Qc (uK BK497) hb);replace HB:=Aside0.mk (Qa (uB HB) hb);(try clear hb)))
   go_ret
   exact ⟨by first|rfl|(simp [Qd,Qe] <;>rfl)|(simp [*,Qd,Qe] <;>rfl),uB HB⟩
  ·
   replace c6:=Bool.eq_false_iff.mpr c6;subst c6;rw [if_neg (show ¬ (false=true) by decide)] at H;obtain rfl:=Option.some.inj H;go_enter Tryz.func152,Tryz.ntmps152;go_wp2_with (first|(refine bE (N:=2) (cs:= #[.slice A0_0 l0_0.length c0_0]) (t:=26) ?_;intro gb497 hg w15 hbox hb;have BK497:=Aside0.mk (hbox);have GW497:=Aside0.mk ((gV hg (uB HB)));have GE497:=GW497;replace HB:=Aside0.mk (Qa (uB HB) hb);clear hb hbox hg;have hcz16_0:=bC BK497;have hfz16_0:=Qf BK497.out 0)|(refine gA (some 6) Tryz.func165 #[.agg #[.slice A0_0 l0_0.length c0_0]] ?_;(with_reducible refine (Qc2.calls k _ _ l0_0 true _ (uD HR0_0 HB) HC0_0.out A3.out).mono ?_);rintro e w17 ⟨rfl,hb⟩;refine ⟨_,rfl,?_⟩;replace BK497:=Aside0.mk (Qc (uK BK497) hb);replace HB:=Aside0.mk (Qa (uB HB) hb);(try clear hb);have hcz18_0:=bC BK497;have hfz18_0:=Qf BK497.out 0)|(go_at_call 199;(with_reducible refine (Qdo.calls _ _ l0_0 a1 false _ (uD HR0_0 HB) HC0_0.out A5.out).mono ?_);rintro e w19 ⟨rfl,hb⟩;replace BK497:=Aside0.mk (Qc (uK BK497) hb);replace HB:=Aside0.mk (Qa (uB HB) hb);(try clear hb)))
   go_ret
   exact ⟨by first|rfl|(simp [Qd,Qe] <;>rfl)|(simp [*,Qd,Qe] <;>rfl),uB HB⟩
 ·
  replace c4:=Bool.eq_false_iff.mpr c4;subst c4;rw [if_neg (show ¬ (false=true) by decide)] at H;obtain rfl:=Option.some.inj H;go_enter Tryz.func152,Tryz.ntmps152;go_wp2_with (first|(refine bE (N:=2) (cs:= #[.slice A0_0 l0_0.length c0_0]) (t:=26) ?_;intro gb497 hg w20 hbox hb;have BK497:=Aside0.mk (hbox);have GW497:=Aside0.mk ((gV hg (uB HB)));have GE497:=GW497;replace HB:=Aside0.mk (Qa (uB HB) hb);clear hb hbox hg;have hcz21_0:=bC BK497;have hfz21_0:=Qf BK497.out 0)|(refine gA (some 6) Tryz.func165 #[.agg #[.slice A0_0 l0_0.length c0_0]] ?_;(with_reducible refine (Qc2.calls k _ _ l0_0 false _ (uD HR0_0 HB) HC0_0.out A3.out).mono ?_);rintro e w22 ⟨rfl,hb⟩;refine ⟨_,rfl,?_⟩;replace BK497:=Aside0.mk (Qc (uK BK497) hb);replace HB:=Aside0.mk (Qa (uB HB) hb);(try clear hb)))
  go_ret
  exact ⟨by first|rfl|(simp [Qd,Qe] <;>rfl)|(simp [*,Qd,Qe] <;>rfl),uB HB⟩
mutual
def Q9.l0 : Nat → List Int → List Int → Int → Int → Option (List Int)
 |0,_,_,_,_=>none
 |k+1,x4,x9,x10,x11=>if x11<x10 then (if 0≤x11 then (if x11<(x9.length:Int) then (Q9.l1 k x4 x11 (rd x9 x11) x9 x10 x11) else (none)) else (none)) else (some x4)
def Q9.l1 : Nat → List Int → Int → Int → List Int → Int → Int → Option (List Int)
 |0,_,_,_,_,_,_=>none
 |k+1,x4,x5,x6,x9,x10,x11=>if (x4.length:Int)≤x6 then (if x4.length<17592186044416 then (Q9.l1 k (x4++ [0]) x5 x6 x9 x10 x11) else (none)) else (if 0≤x6 then (if x6<(x4.length:Int) then (if 0≤x5 then (Q9.l0 k (x4.set (x6:Int).toNat (Go.bits .or .i64 (rd x4 x6) (shl .i64 1 x5))) x9 x10 (wrap64 (x11+1))) else (none)) else (none)) else (none))
end
def Q9.f (k : Nat) (l0_0 : List Int) : Option (List Int) := (Q7.f k l0_0).bind fun t502 => (Q9.l0 k ([] : List Int) t502 (t502.length : Int) 0)
theorem Q9.mono_l : ∀ k, (∀ y0 y1 y2 y3, LeO (Q9.l0 k y0 y1 y2 y3) (Q9.l0 (k + 1) y0 y1 y2 y3)) ∧ (∀ y0 y1 y2 y3 y4 y5, LeO (Q9.l1 k y0 y1 y2 y3 y4 y5) (Q9.l1 (k + 1) y0 y1 y2 y3 y4 y5))
 |0=>⟨fun _ _ _ _ r h=>by simp [Q9.l0] at h,fun _ _ _ _ _ _ r h=>by simp [Q9.l1] at h⟩
 |k+1=>by
  obtain ⟨ih0,ih1⟩:=Q9.mono_l k;refine ⟨?_,?_⟩
  all_goals
   intros
   first|unfold Q9.l0|unfold Q9.l1
   repeat' (with_reducible first|apply ih0|apply ih1|apply Q7.mono|exact LeO.refl _|exact LeO.none _|refine LeO.ite ?_ ?_|refine LeO.bind ?_ (fun _=> ?_))
theorem Q9.mono : ∀ a0 k, LeO (Q9.f k a0) (Q9.f (k + 1) a0) := by
 intro a0 k;obtain ⟨ih0,ih1⟩:=Q9.mono_l k;unfold Q9.f
 repeat' (with_reducible first|apply ih0|apply ih1|apply Q7.mono|exact LeO.refl _|exact LeO.none _|refine LeO.ite ?_ ?_|refine LeO.bind ?_ (fun _=> ?_))
def Q9.T8 : Bool × List (List Nat × List Nat) := (true, [([], []), ([], []), ([0, 1], [0, 1]), ([2], [2]), ([], []), ([4], [4]), ([3, 5], [3, 5]), ([0, 1, 0, 1, 2, 3, 4, 5, 6], [0, 1]), ([7, 6, 0, 1, 2, 3, 4, 5, 6], [6, 7])])
def Q9.B8 : List Nat := [0, 0, 3, 7, 0, 16, 63, 127, 255]
theorem Q9.tab8 : rtab .any (Qf2 Tryz.f155 8) = Q9.T8 := by kernel_rfl
theorem Q9.bits8 : Qd9 Q9.T8.2 Q9.B8 = true := by kernel_rfl
set_option maxHeartbeats 8000000 in
set_option maxRecDepth 100000 in
theorem Q9.calls (k : Nat) (A0_0 : Option Addr) (c0_0 : Nat) (l0_0 : List Int) (r : List Int) (w : World) (hr0_0 : Kd.C (Kd.int .i64) w A0_0 l0_0.length l0_0) (hc0_0 : l0_0.length ≤ c0_0) (h : Q9.f k l0_0 = some r) :
 Calls Tryz.prog 155 #[.agg #[.slice A0_0 l0_0.length c0_0]] w fun e w'=> ∃ v0_:Value,e= .returned (v0_)∧Kd.R (Kd.int .i64) 3 w' w.heap.size (fun _=>True) v0_ r∧Below w.heap.size w w':=by
 have hu26:=Tryz.underlying26;have HR0_0:=Aside0.mk hr0_0;have HC0_0:=Aside0.mk hc0_0;clear hr0_0 hc0_0;have HB:=Aside0.mk (Below.refl w.heap.size w);have H:((Q7.f k l0_0).bind fun t502=>(Q9.l0 k ([] :List Int) t502 (t502.length:Int) 0))=some r:=h;clear h;obtain ⟨t502,A2,H⟩:=bs H;(try dsimp only at H)
 have H':=Aside0.mk H;clear H;go_enter Tryz.func155,Tryz.ntmps155;go_wp2_with (first|(refine bE (N:=1) (cs:= #[.slice A0_0 l0_0.length c0_0]) (t:=26) ?_;intro gb501 hg w3 hbox hb;have BK501:=Aside0.mk (hbox);have GW501:=Aside0.mk ((gV hg (uB HB)));have GE501:=GW501;replace HB:=Aside0.mk (Qa (uB HB) hb);clear hb hbox hg;have hcz4_0:=bC BK501;have hfz4_0:=Qf BK501.out 0)|(refine gA (some 8) Tryz.func280 #[.agg #[.slice A0_0 l0_0.length c0_0]] ?_;(with_reducible refine (Q7.calls k _ _ l0_0 t502 _ (uD HR0_0 HB) HC0_0.out A2.out).mono ?_);rintro e w5 ⟨v503,rfl,ho0,hb⟩;refine ⟨_,rfl,?_⟩;have HO504:=Aside0.mk (Kd.R_lower ho0 (Qp (uB HB)));replace BK501:=Aside0.mk (Qc (uK BK501) hb);replace HB:=Aside0.mk (Qa (uB HB) hb);(try clear hb ho0);obtain ⟨Ao6,co6,eo6⟩:=Kd.R_slice HO504.out;subst eo6))
 go_loopg [4,11] k (fun kq v4 v11 w'=> ∃ (x4_1:List Int) (x9_1:List Int) (x11_1:Int),v11= .int .i64 x11_1∧Aside0 (Q9.l0 kq x4_1 x9_1 (t502.length:Int) x11_1=some r)∧Aside0 (kq≤k)∧Aside0 (Kd.R (Kd.int .i64) 3 w' w.heap.size (fun k_=>some k_≠((.slice Ao6 t502.length co6):Value).ownBlock) v4 x4_1)∧Aside0 (Kd.R (Kd.int .i64) 3 w' w.heap.size (fun k_=>some k_≠(v4:Value).ownBlock) (.slice Ao6 t502.length co6) x9_1)∧Aside0 (w'.heap[gb501]? =some (.cells #[(.slice A0_0 l0_0.length c0_0)] 26 (0,0)))∧Aside0 (Below w.heap.size w w'))
 case atStart=>exact ⟨(([] :List Int)),(t502),(0),(by first|rfl|(simp;done)|(simp [*];done)),H',⟨Nat.le_refl _⟩,⟨by first|exact Kd.R_nil _ _ _ _ _|exact Kd.N_nil _ _ _ _ _|exact Kd.V_nil _ _ _ _ _|exact Kd.Q_nil _ _ _ _ _|exact Kd.S_nil _ _ _ _ _⟩,⟨by (with_reducible repeat (first|apply Kd.R_alloc|apply Kd.R_drewN|apply Kd.R_drew));exact Kd.R_mono HO504.out (fun _ hk=>(by simp [Value.ownBlock]))⟩,⟨uK BK501⟩,⟨uB HB⟩⟩
 case round=>
  clear H'
  try clear c1
  try clear c2
  try clear p2
  try clear hcz4_0
  try clear hfz4_0
  obtain ⟨x4_1,x9_1,x11_1,rfl,HA,HK1,HO_4,HO_9,BK501,HB⟩:=hrel;have hl9_1:=(Kd.R_reads' HO_9.out).1;rw [hl9_1] at HO_9
  (try simp only [hl9_1])
  (try simp only [hl9_1] at BK501)
  (try simp only [hl9_1] at HO_4)
  cases gk with
  |zero=>exact absurd HA.out (by simp [Q9.l0])
  |succ k1=>
   have H:=HA.out;clear HA;simp only [Q9.l0] at H
   by_cases c7:x11_1<(t502.length:Int)
   ·
    rw [if_pos c7] at H;have c7b0:=decide_eq_true c7
    (try simp only [hl9_1] at c7b0)
    clear c7
    by_cases c8:0≤x11_1
    ·
     rw [if_pos c8] at H;have c8b0:=decide_eq_true c8;clear c8
     by_cases c9:x11_1<(x9_1.length:Int)
     ·
      rw [if_pos c9] at H;have c9b0:=decide_eq_true c9;clear c9;have H':=Aside0.mk H;clear H;have p505:0≤(x11_1:Int):=of_decide_eq_true (by first|(with_reducible assumption)|assumption);have q505:x11_1<(x9_1.length:Int):=of_decide_eq_true (by first|(with_reducible assumption)|assumption);obtain ⟨ad505,e505,hx505_0⟩:=Kd.at_int (Kd.R_reads' HO_9.out).2.2 x11_1 p505 q505;cases e505;replace p505:=eq_true p505;replace q505:=eq_true q505;go_wp2
      go_loopg [4] k1 (fun kq v4 w'=> ∃ (x4_2:List Int),Aside0 (Q9.l1 kq x4_2 x11_1 (rd x9_1 x11_1) x9_1 (t502.length:Int) x11_1=some r)∧Aside0 (kq≤k1)∧Aside0 (Kd.R (Kd.int .i64) 3 w' w.heap.size (fun k_=>some k_≠((.slice (some ad505) x9_1.length co6):Value).ownBlock) v4 x4_2)∧Aside0 (Kd.R (Kd.int .i64) 3 w' w.heap.size (fun k_=>some k_≠(v4:Value).ownBlock) (.slice (some ad505) x9_1.length co6) x9_1)∧Aside0 (w'.heap[gb501]? =some (.cells #[(.slice A0_0 l0_0.length c0_0)] 26 (0,0)))∧Aside0 (Below w.heap.size w w'))
      case atStart=>exact ⟨(x4_1),H',⟨Nat.le_refl _⟩,⟨by (try simp only [hl9_1]);(with_reducible repeat (first|apply Kd.R_alloc|apply Kd.R_drewN|apply Kd.R_drew));exact HO_4.out⟩,⟨by (try simp only [hl9_1]);(with_reducible repeat (first|apply Kd.R_alloc|apply Kd.R_drewN|apply Kd.R_drew));exact HO_9.out⟩,⟨by (try simp only [hl9_1]);(with_reducible repeat (first|refine Qk ?_ _|refine Qj ?_|refine Qi ?_ _));exact BK501.out⟩,⟨uB HB⟩⟩
      case round=>
       clear H'
       try clear c1
       try clear c2
       try clear p2
       try clear p5
       try clear q5
       try clear hx5
       try clear c7
       try clear c7b0
       try clear c8
       try clear c8b0
       try clear c9
       try clear c9b0
       try clear hcz4_0
       try clear hfz4_0
       try clear hx505_0
       try clear p2
       try clear p505
       try clear q505
       obtain ⟨x4_2,HA,HK2,HO_4,HO_9,BK501,HB⟩:=hrel;cases gk with
       |zero=>exact absurd HA.out (by simp [Q9.l1])
       |succ k2=>
        have H:=HA.out;clear HA;simp only [Q9.l1] at H
        by_cases c10:(x4_2.length:Int)≤(rd x9_1 x11_1)
        ·
         rw [if_pos c10] at H;have c10b0:=decide_eq_true c10;clear c10
         by_cases c11:x4_2.length<17592186044416
         ·
          rw [if_pos c11] at H;have LMc11:=Aside0.mk c11;clear c11;obtain ⟨y506,hy506⟩: ∃ y_:List Int,y_=(x4_2++ [0]):=⟨_,rfl⟩
          replace H:(Q9.l1 k2 y506 x11_1 (rd x9_1 x11_1) x9_1 (t502.length:Int) x11_1)=some r:=by first|(rw [hy506];with_reducible exact H)|(have H2_:=(Option.bind_some _ _).symm.trans H;rw [hy506];with_reducible exact H2_)|(have H2_:=(Option.bind_some _ _).symm.trans H;with_reducible exact H2_)|with_reducible exact H|(rw [hy506];exact H)|exact H
          have Ny506:=Aside0.mk hy506;clear hy506;have H':=Aside0.mk H;clear H;obtain ⟨Ao12,co12,eo12⟩:=Kd.R_slice HO_4.out;subst eo12;go_wp2_with (first|((with_reducible refine Qc4 (b:= .append) (xs:= #[.tmp 20, .tmp 21]) rfl ?_);at_builtin;refine Kd.R_append (Kd.int .i64) (w0:=w) w.heap.size rfl (.tmp 20) (.tmp 21) 24 3 (.int .i64 0) 8 rfl Tryz.underlying24 Qfm rfl (by decide) (by omega) (.slice Ao12 x4_2.length co12) x4_2 0 [.int .i64 0] (fun k_=>some k_≠(.slice (some ad505) x9_1.length co6:Value).ownBlock) (fun _=>False) rfl rfl ?aP (fun _ hk=>hk.elim) ?aF ?aO ?aB ?aS ?aL ?_;(case aP=>exact rfl);(case aB=>exact (uB HB));(case aF=>exact (fun k_ hk=>Kd.fresh' (Kd.R_lt (uR HO_9)) k_ hk));(case aO=>exact (uR HO_4));(case aS=>exact (Qp (uB HB)));(case aL=>have:=LMc11.out;omega);intro v507 w13 ho hb hg hat;rw [←Ny506.out] at ho;replace HO_9:=Aside0.mk (Kd.R_after (ok:=(fun _=>True)) (by (with_reducible repeat (first|apply Kd.R_alloc|apply Kd.R_drewN|apply Kd.R_drew));exact Kd.R_mono HO_9.out (fun _ hk=>⟨trivial,hk⟩)) hg hat);replace BK501:=Aside0.mk (Qds (uK BK501) hg (Kd.R_ne HO_4.out BK501.out (by decide)));replace HB:=Aside0.mk (hb);have HO508:=Aside0.mk (ho);clear HO_4;clear ho hb hg hat));go_roundg k2
          case measure=>have:=HK1.out;have:=HK2.out;omega
          case rel=>exact ⟨(y506),H',⟨by have:=HK1.out;have:=HK2.out;omega⟩,⟨by (try simp only [hl9_1]);(with_reducible repeat (first|apply Kd.R_alloc|apply Kd.R_drewN|apply Kd.R_drew));exact HO508.out⟩,⟨by (try simp only [hl9_1]);(with_reducible repeat (first|apply Kd.R_alloc|apply Kd.R_drewN|apply Kd.R_drew));exact Kd.R_mono HO_9.out (fun _ hk=>hk.2)⟩,⟨by (try simp only [hl9_1]);(with_reducible repeat (first|refine Qk ?_ _|refine Qj ?_|refine Qi ?_ _));exact BK501.out⟩,⟨uB HB⟩⟩
         ·
          rw [if_neg c11] at H;exact absurd H (by simp)
        ·
         rw [if_neg c10] at H;have c10b0:=decide_eq_false c10;clear c10
         by_cases c14:0≤(rd x9_1 x11_1)
         ·
          rw [if_pos c14] at H;have c14b0:=decide_eq_true c14;clear c14
          by_cases c15:(rd x9_1 x11_1)<(x4_2.length:Int)
          ·
           rw [if_pos c15] at H;have c15b0:=decide_eq_true c15;clear c15
           by_cases c16:0≤x11_1
           ·
            rw [if_pos c16] at H;have c16b0:=eq_true c16;have c16b1:=decide_eq_true c16;clear c16;obtain ⟨ji17,hji17⟩: ∃ j_:Int,(shl .i64 1 x11_1)=j_:=⟨_,rfl⟩
            replace H:(Q9.l0 k2 (x4_2.set ((rd x9_1 x11_1):Int).toNat (Go.bits .or .i64 (rd x4_2 (rd x9_1 x11_1)) (ji17))) x9_1 (t502.length:Int) (wrap64 (x11_1+1)))=some r:=by first|(rw [hji17] at H;exact H)|(simp only [hji17] at H ⊢;exact H)
            have hji17_:(IntKind.i64.wrap (1*2 ^ min x11_1.toNat 64))=ji17:=hji17;have hji17z:x11_1≤64→(IntKind.i64.wrap (1*2 ^ x11_1.toNat))=ji17:=Qd1 hji17;have hji17u:(IntKind.i64.wrap (2 ^ min x11_1.toNat 64))=ji17:=by have h_:=hji17_;rw [Int.one_mul] at h_;exact h_
            have hji17v:x11_1≤64→(IntKind.i64.wrap (2 ^ x11_1.toNat))=ji17:=fun hle_=>by have h_:=hji17z hle_;rw [Int.one_mul] at h_;exact h_
            have hji17y:(wrap64 (1*2 ^ min x11_1.toNat 64))=ji17:=(Qcu _).symm.trans hji17_;have hji17x:x11_1≤64→(wrap64 (1*2 ^ x11_1.toNat))=ji17:=fun h_=>(Qcu _).symm.trans (hji17z h_)
            obtain ⟨y510,hy510⟩: ∃ y_:List Int,y_=(x4_2.set ((rd x9_1 x11_1):Int).toNat (Go.bits .or .i64 (rd x4_2 (rd x9_1 x11_1)) (ji17))):=⟨_,rfl⟩
            replace H:(Q9.l0 k2 y510 x9_1 (t502.length:Int) (wrap64 (x11_1+1)))=some r:=by first|(rw [hy510];with_reducible exact H)|(have H2_:=(Option.bind_some _ _).symm.trans H;rw [hy510];with_reducible exact H2_)|(have H2_:=(Option.bind_some _ _).symm.trans H;with_reducible exact H2_)|with_reducible exact H|(rw [hy510];exact H)|exact H
            have Ny510:=Aside0.mk hy510;clear hy510;have H':=Aside0.mk H;clear H;obtain ⟨Ao19,co19,eo19⟩:=Kd.R_slice HO_4.out;subst eo19
            try go_wp2
            replace HO_4:=Aside0.mk (Kd.R_drew HO_4.out);replace HO_9:=Aside0.mk (Kd.R_drew HO_9.out);replace BK501:=Aside0.mk (Qj BK501.out);replace HB:=Aside0.mk (Qy HB.out);have p509:0≤((rd x9_1 x11_1):Int):=of_decide_eq_true (by first|(with_reducible assumption)|assumption);have q509:(rd x9_1 x11_1)<(x4_2.length:Int):=of_decide_eq_true (by first|(with_reducible assumption)|assumption);obtain ⟨ad509,e509,hx509_0⟩:=Kd.at_int (Kd.R_reads' HO_4.out).2.2 (rd x9_1 x11_1) p509 q509;cases e509;replace p509:=eq_true p509;replace q509:=eq_true q509;have p18:0≤((rd x9_1 x11_1):Int):=of_decide_eq_true (by first|(with_reducible assumption)|assumption);have q18:((rd x9_1 x11_1):Int)<((x4_2.length:Int):Int):=of_decide_eq_true (by first|(with_reducible assumption)|assumption);obtain ⟨go18,co18,eo18,gb18,gl18,cl18,HG18⟩:=Kd.R_form HO_4.out (by omega)
            (first|cases eo18|(injection eo18 with ea_ en_ ec_;(first|subst ea_|(injection ea_ with ea_;subst ea_));subst ec_;clear en_))
            have GB18:=Aside0.mk gb18;have GG18:=Aside0.mk HG18;clear gb18 gl18 HG18
            (first|simp only [Qe2] at hx509_0|skip)
            obtain ⟨hx18_0,hf18_0⟩:=Kd.R_celln 0 HO_4.out ((rd x9_1 x11_1):Int) p18 q18;replace p18:=eq_true p18;replace q18:=eq_true q18;have HP21:=Kd.R_putn HO_4.out ((rd x9_1 x11_1):Int) (Go.bits .or .i64 (rd x4_2 (rd x9_1 x11_1)) (ji17));rw [←Ny510.out] at HP21;have HQ21:=Aside0.mk HP21;clear HP21;refine sU (n:=9) (S:=fun w'=>w'.cell? ⟨go18,((rd x9_1 x11_1)).toNat,none⟩=some (.int .i64 (rd x4_2 (rd x9_1 x11_1)))) (ds:= [8]) (hx509_0) (fun hHeld=> ?_);refine Qeg Q9.tab8 Q9.bits8 (fun HT_ HW_=> ?_);generalize wr.drew=w20 at HO_4 HO_9 BK501 HB GG18 HQ21 hf18_0 hx18_0 hx509_0 hHeld ⊢;refine pU 0 23 ?_;refine pU 1 24 ?_;refine pU 2 25 ?_;refine pU 4 27 ?_;refine pU 5 28 ?_;refine tU 3 26 hHeld ?_;refine pU 6 29 ?_;refine pU 7 30 ?_;refine lU 8 none fun K hK=> ?_
            refine sK ?_;refine hK.out _ _ ?_;clear hK K;refine dU ?_
            try go_wp2
            (try simp only [←hl9_1])
            go_roundg k2
            case measure=>have:=HK1.out;have:=HK2.out;omega
            case rel=>exact ⟨(y510),(x9_1),(wrap64 (x11_1+1)),(by first|rfl|(simp;done)|(simp [*];done)),H',⟨by have:=HK1.out;have:=HK2.out;omega⟩,⟨by (try simp only [hl9_1]);(with_reducible repeat (first|apply Kd.R_alloc|apply Kd.R_drewN|apply Kd.R_drew));exact HQ21.out⟩,⟨by (try simp only [hl9_1]);(with_reducible repeat (first|apply Kd.R_alloc|apply Kd.R_drewN|apply Kd.R_drew));exact Kd.R_mono (Kd.R_far (p:=⟨go18,((rd x9_1 x11_1):Int).toNat,none⟩) (Kd.R_mono HO_9.out (fun k_ hk=>(⟨hk,fun e_=>hk (by rw [e_];rfl)⟩:_∧k_≠go18))) (fun _ hk=>hk.2) (.int .i64 (Go.bits .or .i64 (rd x4_2 (rd x9_1 x11_1)) (ji17)))) (fun _ hk=>hk.1)⟩,⟨by (try simp only [hl9_1]);(with_reducible repeat (first|refine Qk ?_ _|refine Qj ?_|refine Qi ?_ _));refine Qd8 ?_ (by have h_:=Kd.R_ne HO_4.out BK501.out (by decide);intro e_;exact h_ (by rw [e_];rfl)) _;(with_reducible repeat (first|refine Qk ?_ _|refine Qj ?_|refine Qi ?_ _));exact BK501.out⟩,⟨by repeat (first|(with_reducible first|exact HB.out|apply Qo|apply Qq|apply Qy|refine Q4 ?_ GB18.out|refine Q4 ?_ GE501.out)|exact HB.out)⟩⟩
           ·
            rw [if_neg c16] at H;exact absurd H (by simp)
          ·
           rw [if_neg c15] at H;exact absurd H (by simp)
         ·
          rw [if_neg c14] at H;exact absurd H (by simp)
     ·
      rw [if_neg c9] at H;exact absurd H (by simp)
    ·
     rw [if_neg c8] at H;exact absurd H (by simp)
   ·
    rw [if_neg c7] at H;have c7b0:=decide_eq_false c7
    (try simp only [hl9_1] at c7b0)
    clear c7;obtain rfl:=Option.some.inj H;go_wp2
    go_ret
    exact ⟨_,by first|rfl|(simp [Qd,Qe] <;>rfl)|(simp [*,Qd,Qe] <;>rfl),by (with_reducible repeat (first|apply Kd.R_alloc|apply Kd.R_drewN|apply Kd.R_drew));exact Kd.R_mono HO_4.out (fun _ hk=>trivial),uB HB⟩
def Qey.f (k : Nat) (l0_0 : List Int) (a1 : Int) (a2 : Int) : Option (Int) := if 0 ≤ a2 then ((Qbu.f k l0_0 (Go.bits .xor .i64 a1 (shl .i64 1 a2))).bind fun t512 => (if t512 = true then (some (Go.bits .xor .i64 a1 (shl .i64 1 a2))) else (some a1))) else (none)
theorem Qey.mono : ∀ a0 a1 a2 k, LeO (Qey.f k a0 a1 a2) (Qey.f (k + 1) a0 a1 a2) := by
 intro a0 a1 a2 k;unfold Qey.f
 repeat' (with_reducible first|apply Qbu.mono|exact LeO.refl _|exact LeO.none _|refine LeO.ite ?_ ?_|refine LeO.bind ?_ (fun _=> ?_))
set_option maxHeartbeats 8000000 in
set_option maxRecDepth 100000 in
theorem Qey.calls (k : Nat) (A0_0 : Option Addr) (c0_0 : Nat) (l0_0 : List Int) (a1 : Int) (a2 : Int) (r : Int) (w : World) (hr0_0 : Kd.C (Kd.int .i64) w A0_0 l0_0.length l0_0) (hc0_0 : l0_0.length ≤ c0_0) (h : Qey.f k l0_0 a1 a2 = some r) :
 Calls Tryz.prog 331 #[.agg #[.slice A0_0 l0_0.length c0_0], .int .i64 a1, .int .i64 a2] w fun e w'=>e= .returned (.int .i64 r)∧Below w.heap.size w w':=by
 have hu26:=Tryz.underlying26;have HR0_0:=Aside0.mk hr0_0;have HC0_0:=Aside0.mk hc0_0;clear hr0_0 hc0_0;have HB:=Aside0.mk (Below.refl w.heap.size w);have H:(if 0≤a2 then ((Qbu.f k l0_0 (Go.bits .xor .i64 a1 (shl .i64 1 a2))).bind fun t512=>(if t512=true then (some (Go.bits .xor .i64 a1 (shl .i64 1 a2))) else (some a1))) else (none))=some r:=h;clear h
 by_cases c4:0≤a2
 ·
  rw [if_pos c4] at H;have c4b0:=eq_true c4;have c4b1:=decide_eq_true c4;clear c4;obtain ⟨ji5,hji5⟩: ∃ j_:Int,(shl .i64 1 a2)=j_:=⟨_,rfl⟩
  replace H:((Qbu.f k l0_0 (Go.bits .xor .i64 a1 (ji5))).bind fun t512=>(if t512=true then (some (Go.bits .xor .i64 a1 (ji5))) else (some a1)))=some r:=by first|(rw [hji5] at H;exact H)|(simp only [hji5] at H ⊢;exact H)
  have hji5_:(IntKind.i64.wrap (1*2 ^ min a2.toNat 64))=ji5:=hji5;have hji5z:a2≤64→(IntKind.i64.wrap (1*2 ^ a2.toNat))=ji5:=Qd1 hji5;have hji5u:(IntKind.i64.wrap (2 ^ min a2.toNat 64))=ji5:=by have h_:=hji5_;rw [Int.one_mul] at h_;exact h_
  have hji5v:a2≤64→(IntKind.i64.wrap (2 ^ a2.toNat))=ji5:=fun hle_=>by have h_:=hji5z hle_;rw [Int.one_mul] at h_;exact h_
  have hji5y:(wrap64 (1*2 ^ min a2.toNat 64))=ji5:=(Qcu _).symm.trans hji5_;have hji5x:a2≤64→(wrap64 (1*2 ^ a2.toNat))=ji5:=fun h_=>(Qcu _).symm.trans (hji5z h_)
  obtain ⟨t512,A6,H⟩:=bs H;(try dsimp only at H)
  by_cases c7:t512=true
  ·
   subst c7;rw [if_pos rfl] at H;obtain rfl:=Option.some.inj H;go_enter Tryz.func331,Tryz.ntmps331;go_wp2_with (first|(refine bE (N:=3) (cs:= #[.slice A0_0 l0_0.length c0_0]) (t:=26) ?_;intro gb511 hg w8 hbox hb;have BK511:=Aside0.mk (hbox);have GW511:=Aside0.mk ((gV hg (uB HB)));have GE511:=GW511;replace HB:=Aside0.mk (Qa (uB HB) hb);clear hb hbox hg;have hcz9_0:=bC BK511;have hfz9_0:=Qf BK511.out 0)|((with_reducible refine Qdp (f:=278) rfl ?_);refine Qeu (some 14) rfl rfl Tryz.func278 (by kernel_rfl) rfl #[.agg #[.slice A0_0 l0_0.length c0_0], .int .i64 (Go.bits .xor .i64 a1 (ji5))] rfl (by (try simp only [List.map_toArray,List.map_cons,List.map_nil]);first|done|(simp only [hji5];rfl)|rfl|(simp only [List.length_drop,List.length_take];rfl)) ?_;(with_reducible refine (Qbu.calls k _ _ l0_0 (Go.bits .xor .i64 a1 (ji5)) true _ (uD HR0_0 HB) HC0_0.out A6.out).mono ?_);rintro e w10 ⟨rfl,hb⟩;refine ⟨_,rfl,?_⟩;replace BK511:=Aside0.mk (Qc (uK BK511) hb);replace HB:=Aside0.mk (Qa (uB HB) hb);(try clear hb)))
   go_ret
   exact ⟨by first|rfl|(simp [Qd,Qe] <;>rfl)|(simp only [←hji5];first|rfl|(simp [Qd,Qe] <;>rfl))|(simp [*,Qd,Qe] <;>rfl),uB HB⟩
  ·
   replace c7:=Bool.eq_false_iff.mpr c7;subst c7;rw [if_neg (show ¬ (false=true) by decide)] at H;obtain rfl:=Option.some.inj H;go_enter Tryz.func331,Tryz.ntmps331;go_wp2_with (first|(refine bE (N:=3) (cs:= #[.slice A0_0 l0_0.length c0_0]) (t:=26) ?_;intro gb511 hg w11 hbox hb;have BK511:=Aside0.mk (hbox);have GW511:=Aside0.mk ((gV hg (uB HB)));have GE511:=GW511;replace HB:=Aside0.mk (Qa (uB HB) hb);clear hb hbox hg;have hcz12_0:=bC BK511;have hfz12_0:=Qf BK511.out 0)|((with_reducible refine Qdp (f:=278) rfl ?_);refine Qeu (some 14) rfl rfl Tryz.func278 (by kernel_rfl) rfl #[.agg #[.slice A0_0 l0_0.length c0_0], .int .i64 (Go.bits .xor .i64 a1 (ji5))] rfl (by (try simp only [List.map_toArray,List.map_cons,List.map_nil]);first|done|(simp only [hji5];rfl)|rfl|(simp only [List.length_drop,List.length_take];rfl)) ?_;(with_reducible refine (Qbu.calls k _ _ l0_0 (Go.bits .xor .i64 a1 (ji5)) false _ (uD HR0_0 HB) HC0_0.out A6.out).mono ?_);rintro e w13 ⟨rfl,hb⟩;refine ⟨_,rfl,?_⟩;replace BK511:=Aside0.mk (Qc (uK BK511) hb);replace HB:=Aside0.mk (Qa (uB HB) hb);(try clear hb)))
   go_ret
   exact ⟨by first|rfl|(simp [Qd,Qe] <;>rfl)|(simp only [←hji5];first|rfl|(simp [Qd,Qe] <;>rfl))|(simp [*,Qd,Qe] <;>rfl),uB HB⟩
 ·
  rw [if_neg c4] at H;exact absurd H (by simp)
def Qc5.l0 : Nat → Int → Int → Int → Int → List Int → Option (Int)
 |0,_,_,_,_,_=>none
 |k+1,x1,x2,x10,x11,x514000=>if x11<x10 then ((Qcq.f x2 x11).bind fun t514=>(if t514=true then ((Qey.f k x514000 x1 x11).bind fun t515=>(Qc5.l0 k t515 x2 x10 (wrap64 (x11+1)) x514000)) else (Qc5.l0 k x1 x2 x10 (wrap64 (x11+1)) x514000))) else (some x1)
def Qc5.f (k : Nat) (l0_0 : List Int) (a1 : Int) (a2 : Int) : Option (Int) := Qc5.l0 k a1 a2 (l0_0.length : Int) 0 l0_0
theorem Qc5.mono_l : ∀ k, (∀ y0 y1 y2 y3 y4, LeO (Qc5.l0 k y0 y1 y2 y3 y4) (Qc5.l0 (k + 1) y0 y1 y2 y3 y4))
 |0=>fun _ _ _ _ _ r h=>by simp [Qc5.l0] at h
 |k+1=>by
  have ih0:=Qc5.mono_l k
  ·
   intro y0 y1 y2 y3 y4;unfold Qc5.l0
   repeat' first
   |(with_reducible exact ih0 _ _ _ _ _)
   |(with_reducible exact Qey.mono _ _ _ _)
   |(with_reducible exact LeO.refl _)
   |(with_reducible exact LeO.none _)
   |(with_reducible refine LeO.ite ?_ ?_)
   |(with_reducible refine LeO.bind ?_ (fun _=> ?_))
   |exact ih0 _ _ _ _ _
   |exact Qey.mono _ _ _ _
   |exact LeO.none _
   |refine LeO.ite ?_ ?_
   |refine LeO.bind ?_ (fun _=> ?_)
theorem Qc5.mono : ∀ a0 a1 a2 k, LeO (Qc5.f k a0 a1 a2) (Qc5.f (k + 1) a0 a1 a2) := by
 intro a0 a1 a2 k;have ih0:=Qc5.mono_l k;unfold Qc5.f
 repeat' (with_reducible first|apply ih0|apply Qey.mono|exact LeO.refl _|exact LeO.none _|refine LeO.ite ?_ ?_|refine LeO.bind ?_ (fun _=> ?_))
set_option maxHeartbeats 8000000 in
set_option maxRecDepth 100000 in
theorem Qc5.calls (k : Nat) (A0_0 : Option Addr) (c0_0 : Nat) (l0_0 : List Int) (a1 : Int) (a2 : Int) (r : Int) (w : World) (hr0_0 : Kd.C (Kd.int .i64) w A0_0 l0_0.length l0_0) (hc0_0 : l0_0.length ≤ c0_0) (h : Qc5.f k l0_0 a1 a2 = some r) :
 Calls Tryz.prog 279 #[.agg #[.slice A0_0 l0_0.length c0_0], .int .i64 a1, .int .i64 a2] w fun e w'=>e= .returned (.int .i64 r)∧Below w.heap.size w w':=by
 have hu26:=Tryz.underlying26;have HR0_0:=Aside0.mk hr0_0;have HC0_0:=Aside0.mk hc0_0;clear hr0_0 hc0_0;have HB:=Aside0.mk (Below.refl w.heap.size w);have H:(Qc5.l0 k a1 a2 (l0_0.length:Int) 0 l0_0)=some r:=h;clear h;have H':=Aside0.mk H;clear H;go_enter Tryz.func279,Tryz.ntmps279;go_wp2_with (first|(refine bE (N:=3) (cs:= #[.slice A0_0 l0_0.length c0_0]) (t:=26) ?_;intro gb513 hg w4 hbox hb;have BK513:=Aside0.mk (hbox);have GW513:=Aside0.mk ((gV hg (uB HB)));have GE513:=GW513;replace HB:=Aside0.mk (Qa (uB HB) hb);clear hb hbox hg;have hcz5_0:=bC BK513;have hfz5_0:=Qf BK513.out 0))
 go_loopg [1,11] k (fun kq v1 v11 w'=> ∃ (x1_1:Int) (x11_1:Int),v1= .int .i64 x1_1∧v11= .int .i64 x11_1∧Aside0 (Qc5.l0 kq x1_1 a2 (l0_0.length:Int) x11_1 l0_0=some r)∧Aside0 (kq≤k)∧Aside0 (w'.heap[gb513]? =some (.cells #[(.slice A0_0 l0_0.length c0_0)] 26 (0,0)))∧Aside0 (Below w.heap.size w w'))
 case atStart=>exact ⟨(a1),(0),(by first|rfl|(simp;done)|(simp [*];done)),(by first|rfl|(simp;done)|(simp [*];done)),H',⟨Nat.le_refl _⟩,⟨uK BK513⟩,⟨uB HB⟩⟩
 case round=>
  clear H'
  try clear c2
  try clear p2
  try clear hcz5_0
  try clear hfz5_0
  obtain ⟨x1_1,x11_1,rfl,rfl,HA,HK1,BK513,HB⟩:=hrel;cases gk with
  |zero=>exact absurd HA.out (by simp [Qc5.l0])
  |succ k1=>
   have H:=HA.out;clear HA;simp only [Qc5.l0] at H
   by_cases c6:x11_1<(l0_0.length:Int)
   ·
    rw [if_pos c6] at H;have c6b0:=decide_eq_true c6;clear c6;obtain ⟨t514,A7,H⟩:=bs H;(try dsimp only at H)
    by_cases c8:t514=true
    ·
     subst c8;rw [if_pos rfl] at H;obtain ⟨t515,A9,H⟩:=bs H;(try dsimp only at H)
     have H':=Aside0.mk H;clear H;go_wp2_with (first|(refine gA (some 16) Tryz.func253 #[.int .i64 a2, .int .i64 x11_1] ?_;(with_reducible refine (Qcq.calls a2 x11_1 true _ A7.out).mono ?_);rintro e w' ⟨rfl,⟨nd,rfl⟩⟩;refine ⟨_,rfl,?_⟩;have hcz10_0:=bC BK513;have hfz10_0:=Qf BK513.out 0)|(refine gA (some 20) Tryz.func331 #[.agg #[.slice A0_0 l0_0.length c0_0], .int .i64 x1_1, .int .i64 x11_1] ?_;(with_reducible refine (Qey.calls k1 _ _ l0_0 x1_1 x11_1 t515 _ ?side1 HC0_0.out A9.out).mono ?_);(case side1=>repeat (first|exact (Kd.C_below HR0_0.out (uB HB))|(with_reducible refine Kd.C_alloc ?_ _)|(with_reducible refine Kd.C_drewN ?_ _)|(with_reducible refine Kd.C_drew ?_)));rintro e w11 ⟨rfl,hb⟩;refine ⟨_,rfl,?_⟩;replace BK513:=Aside0.mk (Qc (uK BK513) hb);replace HB:=Aside0.mk (Qa (uB HB) hb);(try clear hb)));go_roundg k1
     case measure=>have:=HK1.out;omega
     case rel=>exact ⟨(t515),(wrap64 (x11_1+1)),(by first|rfl|(simp;done)|(simp [*];done)),(by first|rfl|(simp;done)|(simp [*];done)),H',⟨by have:=HK1.out;omega⟩,⟨uK BK513⟩,⟨uB HB⟩⟩
    ·
     replace c8:=Bool.eq_false_iff.mpr c8;subst c8;rw [if_neg (show ¬ (false=true) by decide)] at H;have H':=Aside0.mk H;clear H;go_wp2_with (first|(refine gA (some 16) Tryz.func253 #[.int .i64 a2, .int .i64 x11_1] ?_;(with_reducible refine (Qcq.calls a2 x11_1 false _ A7.out).mono ?_);rintro e w' ⟨rfl,⟨nd,rfl⟩⟩;refine ⟨_,rfl,?_⟩));go_roundg k1
     case measure=>have:=HK1.out;omega
     case rel=>exact ⟨(x1_1),(wrap64 (x11_1+1)),(by first|rfl|(simp;done)|(simp [*];done)),(by first|rfl|(simp;done)|(simp [*];done)),H',⟨by have:=HK1.out;omega⟩,⟨uK BK513⟩,⟨uB HB⟩⟩
   ·
    rw [if_neg c6] at H;have c6b0:=decide_eq_false c6;clear c6;obtain rfl:=Option.some.inj H;go_wp2
    go_ret
    exact ⟨by first|rfl|(simp [Qd,Qe] <;>rfl)|(simp [*,Qd,Qe] <;>rfl),uB HB⟩
def Qbt.l0 : Nat → Int → List Int → List Int → Int → Int → List Int → Option (Int)
 |0,_,_,_,_,_,_=>none
 |k+1,x1,x7,x12,x13,x14,x517000=>if x14<x13 then (if 0≤x14 then (if x14<(x12.length:Int) then (if 0≤(rd x12 x14) then (if (rd x12 x14)<(x7.length:Int) then ((Qc5.f k x517000 x1 (rd x7 (rd x12 x14))).bind fun t522=>(Qbt.l0 k t522 x7 x12 x13 (wrap64 (x14+1)) x517000)) else (none)) else (none)) else (none)) else (none)) else (some x1)
def Qbt.f (k : Nat) (l0_0 : List Int) (a1 : Int) (l2 : List Int) : Option (Int) := (Q9.f k l0_0).bind fun t517 => (Qbt.l0 k a1 t517 l2 (l2.length : Int) 0 l0_0)
theorem Qbt.mono_l : ∀ k, (∀ y0 y1 y2 y3 y4 y5, LeO (Qbt.l0 k y0 y1 y2 y3 y4 y5) (Qbt.l0 (k + 1) y0 y1 y2 y3 y4 y5))
 |0=>fun _ _ _ _ _ _ r h=>by simp [Qbt.l0] at h
 |k+1=>by
  have ih0:=Qbt.mono_l k
  ·
   intro y0 y1 y2 y3 y4 y5;unfold Qbt.l0
   repeat' first
   |(with_reducible exact ih0 _ _ _ _ _ _)
   |(with_reducible exact Qc5.mono _ _ _ _)
   |(with_reducible exact Q9.mono _ _)
   |(with_reducible exact LeO.refl _)
   |(with_reducible exact LeO.none _)
   |(with_reducible refine LeO.ite ?_ ?_)
   |(with_reducible refine LeO.bind ?_ (fun _=> ?_))
   |exact ih0 _ _ _ _ _ _
   |exact Qc5.mono _ _ _ _
   |exact Q9.mono _ _
   |exact LeO.none _
   |refine LeO.ite ?_ ?_
   |refine LeO.bind ?_ (fun _=> ?_)
theorem Qbt.mono : ∀ a0 a1 a2 k, LeO (Qbt.f k a0 a1 a2) (Qbt.f (k + 1) a0 a1 a2) := by
 intro a0 a1 a2 k;have ih0:=Qbt.mono_l k;unfold Qbt.f
 repeat' (with_reducible first|apply ih0|apply Qc5.mono|apply Q9.mono|exact LeO.refl _|exact LeO.none _|refine LeO.ite ?_ ?_|refine LeO.bind ?_ (fun _=> ?_))
def Qbt.T5 : Bool × List (List Nat × List Nat) := (true, [([], []), ([], []), ([], []), ([], []), ([2, 3], [2, 3]), ([4], [4]), ([0, 1, 5], [0, 1, 5]), ([6, 6, 0, 1, 2, 3, 4, 5, 6], [1, 6])])
def Qbt.B5 : List Nat := [0, 0, 0, 0, 12, 28, 63, 127]
theorem Qbt.tab5 : rtab .any (Qf2 Tryz.f153 5) = Qbt.T5 := by kernel_rfl
theorem Qbt.bits5 : Qd9 Qbt.T5.2 Qbt.B5 = true := by kernel_rfl
set_option maxHeartbeats 8000000 in
set_option maxRecDepth 100000 in
theorem Qbt.calls (k : Nat) (A0_0 : Option Addr) (c0_0 : Nat) (l0_0 : List Int) (a1 : Int) (A2 : Option Addr) (c2 : Nat) (l2 : List Int) (r : Int) (w : World) (hr0_0 : Kd.C (Kd.int .i64) w A0_0 l0_0.length l0_0) (hc0_0 : l0_0.length ≤ c0_0) (hr2 : Kd.C (Kd.int .i64) w A2 l2.length l2) (hc2 : l2.length ≤ c2) (h : Qbt.f k l0_0 a1 l2 = some r) :
 Calls Tryz.prog 153 #[.agg #[.slice A0_0 l0_0.length c0_0], .int .i64 a1, .slice A2 l2.length c2] w fun e w'=>e= .returned (.int .i64 r)∧Below w.heap.size w w':=by
 have hu26:=Tryz.underlying26;have HR0_0:=Aside0.mk hr0_0;have HC0_0:=Aside0.mk hc0_0;clear hr0_0 hc0_0;have HR2:=Aside0.mk hr2;have HC2:=Aside0.mk hc2;clear hr2 hc2;have HB:=Aside0.mk (Below.refl w.heap.size w);have H:((Q9.f k l0_0).bind fun t517=>(Qbt.l0 k a1 t517 l2 (l2.length:Int) 0 l0_0))=some r:=h;clear h;obtain ⟨t517,A4,H⟩:=bs H;(try dsimp only at H)
 have H':=Aside0.mk H;clear H;go_enter Tryz.func153,Tryz.ntmps153;go_wp2_with (first|(refine bE (N:=3) (cs:= #[.slice A0_0 l0_0.length c0_0]) (t:=26) ?_;intro gb516 hg w5 hbox hb;have BK516:=Aside0.mk (hbox);have GW516:=Aside0.mk ((gV hg (uB HB)));have GE516:=GW516;replace HB:=Aside0.mk (Qa (uB HB) hb);clear hb hbox hg;have hcz6_0:=bC BK516;have hfz6_0:=Qf BK516.out 0)|(refine gA (some 11) Tryz.func155 #[.agg #[.slice A0_0 l0_0.length c0_0]] ?_;(with_reducible refine (Q9.calls k _ _ l0_0 t517 _ (uD HR0_0 HB) HC0_0.out A4.out).mono ?_);rintro e w7 ⟨v518,rfl,ho0,hb⟩;refine ⟨_,rfl,?_⟩;have HO519:=Aside0.mk (Kd.R_lower ho0 (Qp (uB HB)));replace BK516:=Aside0.mk (Qc (uK BK516) hb);replace HB:=Aside0.mk (Qa (uB HB) hb);(try clear hb ho0)))
 go_loopg [1,14] k (fun kq v1 v14 w'=> ∃ (x1_1:Int) (x14_1:Int),v1= .int .i64 x1_1∧v14= .int .i64 x14_1∧Aside0 (Qbt.l0 kq x1_1 t517 l2 (l2.length:Int) x14_1 l0_0=some r)∧Aside0 (kq≤k)∧Aside0 (Kd.R (Kd.int .i64) 3 w' w.heap.size (fun _=>True) v518 t517)∧Aside0 (w'.heap[gb516]? =some (.cells #[(.slice A0_0 l0_0.length c0_0)] 26 (0,0)))∧Aside0 (Below w.heap.size w w'))
 case atStart=>exact ⟨(a1),(0),(by first|rfl|(simp;done)|(simp [*];done)),(by first|rfl|(simp;done)|(simp [*];done)),H',⟨Nat.le_refl _⟩,⟨uR HO519⟩,⟨uK BK516⟩,⟨uB HB⟩⟩
 case round=>
  clear H'
  try clear c1
  try clear c2
  try clear p2
  try clear hcz6_0
  try clear hfz6_0
  obtain ⟨x1_1,x14_1,rfl,rfl,HA,HK1,HO_7,BK516,HB⟩:=hrel;cases gk with
  |zero=>exact absurd HA.out (by simp [Qbt.l0])
  |succ k1=>
   have H:=HA.out;clear HA;simp only [Qbt.l0] at H
   by_cases c8:x14_1<(l2.length:Int)
   ·
    rw [if_pos c8] at H;have c8b0:=decide_eq_true c8;clear c8
    by_cases c9:0≤x14_1
    ·
     rw [if_pos c9] at H;have c9b0:=decide_eq_true c9;clear c9
     by_cases c10:x14_1<(l2.length:Int)
     ·
      rw [if_pos c10] at H;have c10b0:=decide_eq_true c10;clear c10
      by_cases c11:0≤(rd l2 x14_1)
      ·
       rw [if_pos c11] at H;have c11b0:=decide_eq_true c11;clear c11
       by_cases c12:(rd l2 x14_1)<(t517.length:Int)
       ·
        rw [if_pos c12] at H;have c12b0:=decide_eq_true c12;clear c12;obtain ⟨t522,A13,H⟩:=bs H;(try dsimp only at H)
        have H':=Aside0.mk H;clear H;have p520:0≤(x14_1:Int):=of_decide_eq_true (by first|(with_reducible assumption)|assumption);have q520:x14_1<(l2.length:Int):=of_decide_eq_true (by first|(with_reducible assumption)|assumption);obtain ⟨ad520,e520,hx520_0⟩:=Kd.at_int HR2.out x14_1 p520 q520;cases e520;replace hx520_0:=(HB.out.cell (World.block_lt_of_cell? w _ hx520_0)).trans hx520_0;replace p520:=eq_true p520;replace q520:=eq_true q520
        try go_wp2
        replace HO_7:=Aside0.mk (Kd.R_drew HO_7.out);replace BK516:=Aside0.mk (Qj BK516.out);replace HB:=Aside0.mk (Qy HB.out);obtain ⟨Ao15,co15,eo15⟩:=Kd.R_slice HO_7.out
        (first|subst eo15|(injection eo15 with f1_ f2_ f3_;have f4_:=f1_.symm;have f5_:=f3_.symm;clear f1_ f2_ f3_;subst f4_;subst f5_))
        have p521:0≤((rd l2 x14_1):Int):=of_decide_eq_true (by first|(with_reducible assumption)|assumption);have q521:(rd l2 x14_1)<(t517.length:Int):=of_decide_eq_true (by first|(with_reducible assumption)|assumption);obtain ⟨ad521,e521,hx521_0⟩:=Kd.at_int (Kd.R_reads' HO_7.out).2.2 (rd l2 x14_1) p521 q521;cases e521;replace p521:=eq_true p521;replace q521:=eq_true q521;refine sU (n:=8) (S:=fun w'=>w'.cell? ⟨gb516,0,none⟩=some (.slice A0_0 l0_0.length c0_0)∧w'.cell? (ad521.add ((rd l2 x14_1)).toNat)=some (.int .i64 (rd t517 (rd l2 x14_1)))) (ds:= []) ⟨(Qci BK516.out 0).trans rfl,hx521_0⟩ (fun hHeld=> ?_);refine Qeg Qbt.tab5 Qbt.bits5 (fun HT_ HW_=> ?_);generalize wr.drew=w14 at HO_7 BK516 HB hx521_0 hHeld ⊢;refine pU 1 19 ?_;refine pU 2 20 ?_;refine pU 3 21 ?_;refine pU 4 22 ?_;refine tW 0 18 hHeld ?_;refine tW 5 23 hHeld ?_;refine oU 6 (some 24) fun K hK=> ?_
        refine Qes Tryz.func279 (by kernel_rfl) rfl #[.agg #[.slice A0_0 l0_0.length c0_0], .int .i64 x1_1, .int .i64 (rd t517 (rd l2 x14_1))] (by rfl) rfl rfl (by (try simp only [List.map_toArray,List.map_cons,List.map_nil]);first|done|rfl|(simp only [List.length_drop,List.length_take];rfl)) ?_
        with_reducible refine (Qc5.calls k1 _ _ l0_0 x1_1 (rd t517 (rd l2 x14_1)) t522 _ ?side1 ?side2 A13.out).mono ?_
        (case side1=>repeat (first|exact (Kd.C_below HR0_0.out HB.out)|(with_reducible refine Kd.C_alloc ?_ _)|(with_reducible refine Kd.C_drewN ?_ _)|(with_reducible refine Kd.C_drew ?_)))
        (case side2=>exact HC0_0.out)
        rintro e w16 ⟨rfl,hb⟩;have HS1_:=(hb.cell (World.block_lt_of_cell? _ _ (hHeld.2))).trans (hHeld.2);refine ⟨_,rfl,?_⟩;replace HO_7:=Aside0.mk (Kd.R_below (uR HO_7) hb);replace BK516:=Aside0.mk (Qc (uK BK516) hb);replace HB:=Aside0.mk (Qa (uB HB) hb)
        skip
        skip
        skip
        skip
        refine hK.out _ _ ⟨(Qci BK516.out 0).trans rfl,HS1_⟩ (fun hHeld=> ?_);clear hK K;refine nU 24 ?_;refine pU 7 1 ?_;refine dU ?_
        try go_wp2
        go_roundg k1
        case measure=>have:=HK1.out;omega
        case rel=>exact ⟨(t522),(wrap64 (x14_1+1)),(by first|rfl|(simp;done)|(simp [*];done)),(by first|rfl|(simp;done)|(simp [*];done)),H',⟨by have:=HK1.out;omega⟩,⟨uR HO_7⟩,⟨uK BK516⟩,⟨uB HB⟩⟩
       ·
        rw [if_neg c12] at H;exact absurd H (by simp)
      ·
       rw [if_neg c11] at H;exact absurd H (by simp)
     ·
      rw [if_neg c10] at H;exact absurd H (by simp)
    ·
     rw [if_neg c9] at H;exact absurd H (by simp)
   ·
    rw [if_neg c8] at H;have c8b0:=decide_eq_false c8;clear c8;obtain rfl:=Option.some.inj H;go_wp2
    go_ret
    exact ⟨by first|rfl|(simp [Qd,Qe] <;>rfl)|(simp [*,Qd,Qe] <;>rfl),uB HB⟩
mutual
def Qbi.l0 : Nat → Int → List Int → Int → Option (List Int)
 |0,_,_,_=>none
 |k+1,x3,x4,x5=>if x5≤x3 then (Qbi.l1 k x3 x4 x5 x3) else (some x4)
def Qbi.l1 : Nat → Int → List Int → Int → Int → Option (List Int)
 |0,_,_,_,_=>none
 |k+1,x3,x4,x5,x6=>if x6 ≥ x5 then (if x4.length<17592186044416 then (Qbi.l1 k x3 (x4++ [x6]) x5 (wrap64 (x6 - 1))) else (none)) else (Qbi.l0 k x3 x4 (wrap64 (x5+1)))
end
def Qbi.f (k : Nat) (l0_0 : List Int) : Option (List Int) := (Q9.f k l0_0).bind fun t524 => (Qbi.l0 k (wrap64 ((t524.length : Int) - 1)) ([] : List Int) 0)
theorem Qbi.mono_l : ∀ k, (∀ y0 y1 y2, LeO (Qbi.l0 k y0 y1 y2) (Qbi.l0 (k + 1) y0 y1 y2)) ∧ (∀ y0 y1 y2 y3, LeO (Qbi.l1 k y0 y1 y2 y3) (Qbi.l1 (k + 1) y0 y1 y2 y3))
 |0=>⟨fun _ _ _ r h=>by simp [Qbi.l0] at h,fun _ _ _ _ r h=>by simp [Qbi.l1] at h⟩
 |k+1=>by
  obtain ⟨ih0,ih1⟩:=Qbi.mono_l k;refine ⟨?_,?_⟩
  all_goals
   intros
   first|unfold Qbi.l0|unfold Qbi.l1
   repeat' (with_reducible first|apply ih0|apply ih1|apply Q9.mono|exact LeO.refl _|exact LeO.none _|refine LeO.ite ?_ ?_|refine LeO.bind ?_ (fun _=> ?_))
theorem Qbi.mono : ∀ a0 k, LeO (Qbi.f k a0) (Qbi.f (k + 1) a0) := by
 intro a0 k;obtain ⟨ih0,ih1⟩:=Qbi.mono_l k;unfold Qbi.f
 repeat' (with_reducible first|apply ih0|apply ih1|apply Q9.mono|exact LeO.refl _|exact LeO.none _|refine LeO.ite ?_ ?_|refine LeO.bind ?_ (fun _=> ?_))
set_option maxHeartbeats 8000000 in
set_option maxRecDepth 100000 in
theorem Qbi.calls (k : Nat) (A0_0 : Option Addr) (c0_0 : Nat) (l0_0 : List Int) (r : List Int) (w : World) (hr0_0 : Kd.C (Kd.int .i64) w A0_0 l0_0.length l0_0) (hc0_0 : l0_0.length ≤ c0_0) (h : Qbi.f k l0_0 = some r) :
 Calls Tryz.prog 154 #[.agg #[.slice A0_0 l0_0.length c0_0]] w fun e w'=> ∃ v0_:Value,e= .returned (v0_)∧Kd.R (Kd.int .i64) 3 w' w.heap.size (fun _=>True) v0_ r∧Below w.heap.size w w':=by
 have hu26:=Tryz.underlying26;have HR0_0:=Aside0.mk hr0_0;have HC0_0:=Aside0.mk hc0_0;clear hr0_0 hc0_0;have HB:=Aside0.mk (Below.refl w.heap.size w);have H:((Q9.f k l0_0).bind fun t524=>(Qbi.l0 k (wrap64 ((t524.length:Int) - 1)) ([] :List Int) 0))=some r:=h;clear h;obtain ⟨t524,A2,H⟩:=bs H;(try dsimp only at H)
 have H':=Aside0.mk H;clear H;go_enter Tryz.func154,Tryz.ntmps154;go_wp2_with (first|(refine bE (N:=1) (cs:= #[.slice A0_0 l0_0.length c0_0]) (t:=26) ?_;intro gb523 hg w3 hbox hb;have BK523:=Aside0.mk (hbox);have GW523:=Aside0.mk ((gV hg (uB HB)));have GE523:=GW523;replace HB:=Aside0.mk (Qa (uB HB) hb);clear hb hbox hg;have hcz4_0:=bC BK523;have hfz4_0:=Qf BK523.out 0)|(refine gA (some 8) Tryz.func155 #[.agg #[.slice A0_0 l0_0.length c0_0]] ?_;(with_reducible refine (Q9.calls k _ _ l0_0 t524 _ (uD HR0_0 HB) HC0_0.out A2.out).mono ?_);rintro e w5 ⟨v525,rfl,ho0,hb⟩;refine ⟨_,rfl,?_⟩;have HO526:=Aside0.mk (Kd.R_lower ho0 (Qp (uB HB)));replace BK523:=Aside0.mk (Qc (uK BK523) hb);replace HB:=Aside0.mk (Qa (uB HB) hb);(try clear hb ho0);obtain ⟨Ao6,co6,eo6⟩:=Kd.R_slice HO526.out;subst eo6))
 go_loopg [4,5] k (fun kq v4 v5 w'=> ∃ (x4_1:List Int) (x5_1:Int),v5= .int .i64 x5_1∧Aside0 (Qbi.l0 kq (wrap64 ((t524.length:Int) - 1)) x4_1 x5_1=some r)∧Aside0 (kq≤k)∧Aside0 (Kd.R (Kd.int .i64) 3 w' w.heap.size (fun _=>True) v4 x4_1)∧Aside0 (w'.heap[gb523]? =some (.cells #[(.slice A0_0 l0_0.length c0_0)] 26 (0,0)))∧Aside0 (Below w.heap.size w w'))
 case atStart=>exact ⟨(([] :List Int)),(0),(by first|rfl|(simp;done)|(simp [*];done)),H',⟨Nat.le_refl _⟩,⟨by first|exact Kd.R_nil _ _ _ _ _|exact Kd.N_nil _ _ _ _ _|exact Kd.V_nil _ _ _ _ _|exact Kd.Q_nil _ _ _ _ _|exact Kd.S_nil _ _ _ _ _⟩,⟨uK BK523⟩,⟨uB HB⟩⟩
 case round=>
  clear H'
  try clear c1
  try clear p2
  try clear p6
  try clear hcz4_0
  try clear hfz4_0
  obtain ⟨x4_1,x5_1,rfl,HA,HK1,HO_4,BK523,HB⟩:=hrel;cases gk with
  |zero=>exact absurd HA.out (by simp [Qbi.l0])
  |succ k1=>
   have H:=HA.out;clear HA;simp only [Qbi.l0] at H
   by_cases c7:x5_1≤(wrap64 ((t524.length:Int) - 1))
   ·
    rw [if_pos c7] at H;have c7b0:=decide_eq_true c7;clear c7;have H':=Aside0.mk H;clear H;go_wp2
    go_loopg [4,6] k1 (fun kq v4 v6 w'=> ∃ (x4_2:List Int) (x6_2:Int),v6= .int .i64 x6_2∧Aside0 (Qbi.l1 kq (wrap64 ((t524.length:Int) - 1)) x4_2 x5_1 x6_2=some r)∧Aside0 (kq≤k1)∧Aside0 (Kd.R (Kd.int .i64) 3 w' w.heap.size (fun _=>True) v4 x4_2)∧Aside0 (w'.heap[gb523]? =some (.cells #[(.slice A0_0 l0_0.length c0_0)] 26 (0,0)))∧Aside0 (Below w.heap.size w w'))
    case atStart=>exact ⟨(x4_1),((wrap64 ((t524.length:Int) - 1))),(by first|rfl|(simp;done)|(simp [*];done)),H',⟨Nat.le_refl _⟩,⟨uR HO_4⟩,⟨uK BK523⟩,⟨uB HB⟩⟩
    case round=>
     clear H'
     try clear c1
     try clear p2
     try clear p6
     try clear c7
     try clear c7b0
     try clear hcz4_0
     try clear hfz4_0
     try clear p2
     try clear p6
     obtain ⟨x4_2,x6_2,rfl,HA,HK2,HO_4,BK523,HB⟩:=hrel;cases gk with
     |zero=>exact absurd HA.out (by simp [Qbi.l1])
     |succ k2=>
      have H:=HA.out;clear HA;simp only [Qbi.l1] at H
      by_cases c8:x6_2 ≥ x5_1
      ·
       rw [if_pos c8] at H;have c8b0:=decide_eq_true c8;clear c8
       by_cases c9:x4_2.length<17592186044416
       ·
        rw [if_pos c9] at H;have LMc9:=Aside0.mk c9;clear c9;obtain ⟨y527,hy527⟩: ∃ y_:List Int,y_=(x4_2++ [x6_2]):=⟨_,rfl⟩
        replace H:(Qbi.l1 k2 (wrap64 ((t524.length:Int) - 1)) y527 x5_1 (wrap64 (x6_2 - 1)))=some r:=by first|(rw [hy527];with_reducible exact H)|(have H2_:=(Option.bind_some _ _).symm.trans H;rw [hy527];with_reducible exact H2_)|(have H2_:=(Option.bind_some _ _).symm.trans H;with_reducible exact H2_)|with_reducible exact H|(rw [hy527];exact H)|exact H
        have Ny527:=Aside0.mk hy527;clear hy527;have H':=Aside0.mk H;clear H;go_wp2_with (first|((with_reducible refine Qc4 (b:= .append) (xs:= #[.tmp 22, .tmp 24]) rfl ?_);at_builtin;refine Kd.R_append (Kd.int .i64) (w0:=w) w.heap.size rfl (.tmp 22) (.tmp 24) 24 3 (.int .i64 0) 8 rfl Tryz.underlying24 Qfm rfl (by decide) (by omega) u4 x4_2 x6_2 [.int .i64 x6_2] (fun _=>True) (fun _=>False) rfl rfl ?aP (fun _ hk=>hk.elim) ?aF ?aO ?aB ?aS ?aL ?_;(case aP=>exact rfl);(case aB=>exact (uB HB));(case aF=>exact (fun _ _=>trivial));(case aO=>exact (uR HO_4));(case aS=>exact (Qp (uB HB)));(case aL=>have:=LMc9.out;omega);intro v528 w10 ho hb hg hat;rw [←Ny527.out] at ho;replace BK523:=Aside0.mk (Qds (uK BK523) hg (Kd.R_ne HO_4.out BK523.out (by decide)));replace HB:=Aside0.mk (hb);have HO529:=Aside0.mk (ho);clear HO_4;clear ho hb hg hat));go_roundg k2
        case measure=>have:=HK1.out;have:=HK2.out;omega
        case rel=>exact ⟨(y527),(wrap64 (x6_2 - 1)),(by first|rfl|(simp;done)|(simp [*];done)),H',⟨by have:=HK1.out;have:=HK2.out;omega⟩,⟨uR HO529⟩,⟨uK BK523⟩,⟨uB HB⟩⟩
       ·
        rw [if_neg c9] at H;exact absurd H (by simp)
      ·
       rw [if_neg c8] at H;have c8b0:=decide_eq_false c8;clear c8;have H':=Aside0.mk H;clear H;go_wp2;go_roundg k2
       case measure=>have:=HK1.out;have:=HK2.out;omega
       case rel=>exact ⟨(x4_2),(wrap64 (x5_1+1)),(by first|rfl|(simp;done)|(simp [*];done)),H',⟨by have:=HK1.out;have:=HK2.out;omega⟩,⟨uR HO_4⟩,⟨uK BK523⟩,⟨uB HB⟩⟩
   ·
    rw [if_neg c7] at H;have c7b0:=decide_eq_false c7;clear c7;obtain rfl:=Option.some.inj H;go_wp2
    go_ret
    exact ⟨_,by first|rfl|(simp [Qd,Qe] <;>rfl)|(simp [*,Qd,Qe] <;>rfl),uR HO_4,uB HB⟩
def Qdm.f (k : Nat) (l0_0 : List Int) (a1 : Int) : Option (Int × Bool) := (Qdi.f k l0_0 a1).bind fun t531 => (if t531 = true then ((Qbi.f k l0_0).bind fun t532 => ((Qbt.f k l0_0 a1 t532).bind fun t535 => (some (t535, true)))) else (some (0, false)))
theorem Qdm.mono : ∀ a0 a1 k, LeO (Qdm.f k a0 a1) (Qdm.f (k + 1) a0 a1) := by
 intro a0 a1 k;unfold Qdm.f
 repeat' (with_reducible first|apply Qdi.mono|apply Qbi.mono|apply Qbt.mono|exact LeO.refl _|exact LeO.none _|refine LeO.ite ?_ ?_|refine LeO.bind ?_ (fun _=> ?_))
set_option maxHeartbeats 8000000 in
set_option maxRecDepth 100000 in
theorem Qdm.calls (k : Nat) (A0_0 : Option Addr) (c0_0 : Nat) (l0_0 : List Int) (a1 : Int) (r1 : Int) (r2 : Bool) (w : World) (hr0_0 : Kd.C (Kd.int .i64) w A0_0 l0_0.length l0_0) (hc0_0 : l0_0.length ≤ c0_0) (h : Qdm.f k l0_0 a1 = some (r1, r2)) :
 Calls Tryz.prog 13 #[.agg #[.slice A0_0 l0_0.length c0_0], .int .i64 a1] w fun e w'=>e= .returned (.tuple #[.int .i64 r1, .bool r2])∧Below w.heap.size w w':=by
 have hu26:=Tryz.underlying26;have HR0_0:=Aside0.mk hr0_0;have HC0_0:=Aside0.mk hc0_0;clear hr0_0 hc0_0;have HB:=Aside0.mk (Below.refl w.heap.size w);have H:((Qdi.f k l0_0 a1).bind fun t531=>(if t531=true then ((Qbi.f k l0_0).bind fun t532=>((Qbt.f k l0_0 a1 t532).bind fun t535=>(some (t535,true)))) else (some (0,false))))=some (r1,r2):=h;clear h;obtain ⟨t531,A3,H⟩:=bs H;(try dsimp only at H)
 by_cases c4:t531=true
 ·
  subst c4;rw [if_pos rfl] at H;obtain ⟨t532,A5,H⟩:=bs H;(try dsimp only at H)
  obtain ⟨t535,A6,H⟩:=bs H;(try dsimp only at H)
  simp only [Option.some.injEq,Prod.mk.injEq] at H;obtain ⟨rfl,rfl⟩:=H;go_enter Tryz.func13,Tryz.ntmps13
  try go_wp2_with (first|(refine bE (N:=2) (cs:= #[.slice A0_0 l0_0.length c0_0]) (t:=26) ?_;intro gb530 hg w7 hbox hb;have BK530:=Aside0.mk (hbox);have GW530:=Aside0.mk ((gV hg (uB HB)));have GE530:=GW530;replace HB:=Aside0.mk (Qa (uB HB) hb);clear hb hbox hg;have hcz8_0:=bC BK530;have hfz8_0:=Qf BK530.out 0)|(refine gA (some 8) Tryz.func152 #[.agg #[.slice A0_0 l0_0.length c0_0], .int .i64 a1] ?_;(with_reducible refine (Qdi.calls k _ _ l0_0 a1 true _ (uD HR0_0 HB) HC0_0.out A3.out).mono ?_);rintro e w9 ⟨rfl,hb⟩;refine ⟨_,rfl,?_⟩;replace BK530:=Aside0.mk (Qc (uK BK530) hb);replace HB:=Aside0.mk (Qa (uB HB) hb);(try clear hb)))
  replace BK530:=Aside0.mk (Qj BK530.out);replace HB:=Aside0.mk (Qy HB.out);refine sU (n:=7) (S:=fun w'=>w'.cell? ⟨gb530,0,none⟩=some (.slice A0_0 l0_0.length c0_0)) (ds:= []) ((Qci BK530.out 0).trans rfl) (fun hHeld=> ?_);generalize w9.drew=w10 at BK530 HB hHeld ⊢;refine pV 1 11 ?_;refine tV 0 10 hHeld ?_;refine tV 2 12 hHeld ?_;refine oV 3 (some 13) fun K hK=> ?_
  refine Qes Tryz.func154 (by kernel_rfl) rfl #[.agg #[.slice A0_0 l0_0.length c0_0]] (by rfl) rfl rfl (by (try simp only [List.map_toArray,List.map_cons,List.map_nil]);first|done|rfl|(simp only [List.length_drop,List.length_take];rfl)) ?_
  with_reducible refine (Qbi.calls k _ _ l0_0 t532 _ ?side1 ?side2 A5.out).mono ?_
  (case side1=>repeat (first|exact (Kd.C_below HR0_0.out HB.out)|(with_reducible refine Kd.C_alloc ?_ _)|(with_reducible refine Kd.C_drewN ?_ _)|(with_reducible refine Kd.C_drew ?_)))
  (case side2=>exact HC0_0.out)
  rintro e w11 ⟨v533,rfl,ho0,hb⟩;refine ⟨_,rfl,?_⟩;have HO534:=Aside0.mk (Kd.R_lower ho0 (Qp (uB HB)));replace BK530:=Aside0.mk (Qc (uK BK530) hb);replace HB:=Aside0.mk (Qa (uB HB) hb)
  skip
  skip
  skip
  skip
  skip
  obtain ⟨Ao12,co12,eo12⟩:=Kd.R_slice HO534.out
  (first|subst eo12|(injection eo12 with f1_ f2_ f3_;have f4_:=f1_.symm;have f5_:=f3_.symm;clear f1_ f2_ f3_;subst f4_;subst f5_))
  refine hK.out _ _ ((Qci BK530.out 0).trans rfl) (fun hHeld=> ?_);clear hK K;refine nU 13 ?_;refine oV 4 (some 14) fun K hK=> ?_
  refine Qes Tryz.func153 (by kernel_rfl) rfl #[.agg #[.slice A0_0 l0_0.length c0_0], .int .i64 a1, .slice Ao12 t532.length co12] (by rfl) rfl rfl (by (try simp only [List.map_toArray,List.map_cons,List.map_nil]);first|done|rfl|(simp only [List.length_drop,List.length_take];rfl)) ?_
  with_reducible refine (Qbt.calls k _ _ l0_0 a1 _ _ t532 t535 _ ?side1 ?side2 ?side3 ?side4 A6.out).mono ?_
  (case side1=>repeat (first|exact (Kd.C_below HR0_0.out HB.out)|(with_reducible refine Kd.C_alloc ?_ _)|(with_reducible refine Kd.C_drewN ?_ _)|(with_reducible refine Kd.C_drew ?_)))
  (case side2=>exact HC0_0.out)
  (case side3=>repeat (first|exact (Kd.R_reads' HO534.out).2.2|(with_reducible refine Kd.C_alloc ?_ _)|(with_reducible refine Kd.C_drewN ?_ _)|(with_reducible refine Kd.C_drew ?_)))
  (case side4=>exact (Kd.R_reads' HO534.out).2.1)
  rintro e w13 ⟨rfl,hb⟩;refine ⟨_,rfl,?_⟩;replace HO534:=Aside0.mk (Kd.R_below (uR HO534) hb);replace BK530:=Aside0.mk (Qc (uK BK530) hb);replace HB:=Aside0.mk (Qa (uB HB) hb)
  skip
  skip
  skip
  skip
  refine hK.out _ _ ((Qci BK530.out 0).trans rfl) (fun hHeld=> ?_);clear hK K;refine nU 14 ?_;refine pV 5 4 ?_;refine pV 6 5 ?_;refine done_ (by kernel_rfl) ?_
  try go_wp2
  go_ret2
  exact ⟨by first|rfl|(simp [Qd,Qe] <;>rfl)|(simp [*,Qd,Qe] <;>rfl),uB HB⟩
 ·
  replace c4:=Bool.eq_false_iff.mpr c4;subst c4;rw [if_neg (show ¬ (false=true) by decide)] at H;simp only [Option.some.injEq,Prod.mk.injEq] at H;obtain ⟨rfl,rfl⟩:=H;go_enter Tryz.func13,Tryz.ntmps13;go_wp2_with (first|(refine bE (N:=2) (cs:= #[.slice A0_0 l0_0.length c0_0]) (t:=26) ?_;intro gb530 hg w14 hbox hb;have BK530:=Aside0.mk (hbox);have GW530:=Aside0.mk ((gV hg (uB HB)));have GE530:=GW530;replace HB:=Aside0.mk (Qa (uB HB) hb);clear hb hbox hg;have hcz15_0:=bC BK530;have hfz15_0:=Qf BK530.out 0)|(refine gA (some 8) Tryz.func152 #[.agg #[.slice A0_0 l0_0.length c0_0], .int .i64 a1] ?_;(with_reducible refine (Qdi.calls k _ _ l0_0 a1 false _ (uD HR0_0 HB) HC0_0.out A3.out).mono ?_);rintro e w16 ⟨rfl,hb⟩;refine ⟨_,rfl,?_⟩;replace BK530:=Aside0.mk (Qc (uK BK530) hb);replace HB:=Aside0.mk (Qa (uB HB) hb);(try clear hb)))
  go_ret2
  exact ⟨by first|rfl|(simp [Qd,Qe] <;>rfl)|(simp [*,Qd,Qe] <;>rfl),uB HB⟩
def Qbc.l0 : Nat → Int → List Int → Int → List Int → Int → Int → List Int → Option (Int × Bool)
 |0,_,_,_,_,_,_,_=>none
 |k+1,x1,x6,x7,x18,x19,x20,x537000=>if x20<x19 then (if 0≤x20 then (if x20<(x18.length:Int) then (if x6.length<17592186044416 then (Qbc.l0 k x1 (x6++ [wrap64 (x7 - (rd x18 x20))]) x7 x18 x19 (wrap64 (x20+1)) x537000) else (none)) else (none)) else (none)) else ((Ql.f k x537000 x1 x6).bind fun t549=>(some (t549,true)))
def Qbc.f (k : Nat) (l0_0 : List Int) (a1 : Int) : Option (Int × Bool) := (Qb6.f k l0_0 a1).bind fun t537 => (if t537 = true then ((Qcg.f k l0_0).bind fun t541 => ((Qba.f k t541).bind fun t542 => (Qbc.l0 k a1 (([] : List Int)) t541 t542 (t542.length : Int) 0 l0_0))) else (some (0, false)))
theorem Qbc.mono_l : ∀ k, (∀ y0 y1 y2 y3 y4 y5 y6, LeO (Qbc.l0 k y0 y1 y2 y3 y4 y5 y6) (Qbc.l0 (k + 1) y0 y1 y2 y3 y4 y5 y6))
 |0=>fun _ _ _ _ _ _ _ r h=>by simp [Qbc.l0] at h
 |k+1=>by
  have ih0:=Qbc.mono_l k
  ·
   intro y0 y1 y2 y3 y4 y5 y6;unfold Qbc.l0
   repeat' first
   |(with_reducible exact ih0 _ _ _ _ _ _ _)
   |(with_reducible exact Qcg.mono _ _)
   |(with_reducible exact Ql.mono _ _ _ _)
   |(with_reducible exact Qb6.mono _ _ _)
   |(with_reducible exact Qba.mono _ _)
   |(with_reducible exact LeO.refl _)
   |(with_reducible exact LeO.none _)
   |(with_reducible refine LeO.ite ?_ ?_)
   |(with_reducible refine LeO.bind ?_ (fun _=> ?_))
   |exact ih0 _ _ _ _ _ _ _
   |exact Qcg.mono _ _
   |exact Ql.mono _ _ _ _
   |exact Qb6.mono _ _ _
   |exact Qba.mono _ _
   |exact LeO.none _
   |refine LeO.ite ?_ ?_
   |refine LeO.bind ?_ (fun _=> ?_)
theorem Qbc.mono : ∀ a0 a1 k, LeO (Qbc.f k a0 a1) (Qbc.f (k + 1) a0 a1) := by
 intro a0 a1 k;have ih0:=Qbc.mono_l k;unfold Qbc.f
 repeat' (with_reducible first|apply ih0|apply Qcg.mono|apply Ql.mono|apply Qb6.mono|apply Qba.mono|exact LeO.refl _|exact LeO.none _|refine LeO.ite ?_ ?_|refine LeO.bind ?_ (fun _=> ?_))
set_option maxHeartbeats 8000000 in
set_option maxRecDepth 100000 in
theorem Qbc.calls (k : Nat) (A0_0 : Option Addr) (c0_0 : Nat) (l0_0 : List Int) (a1 : Int) (r1 : Int) (r2 : Bool) (w : World) (hr0_0 : Kd.C (Kd.int .i64) w A0_0 l0_0.length l0_0) (hc0_0 : l0_0.length ≤ c0_0) (h : Qbc.f k l0_0 a1 = some (r1, r2)) :
 Calls Tryz.prog 14 #[.agg #[.slice A0_0 l0_0.length c0_0], .int .i64 a1] w fun e w'=>e= .returned (.tuple #[.int .i64 r1, .bool r2])∧Below w.heap.size w w':=by
 have hu26:=Tryz.underlying26;have HR0_0:=Aside0.mk hr0_0;have HC0_0:=Aside0.mk hc0_0;clear hr0_0 hc0_0;have HB:=Aside0.mk (Below.refl w.heap.size w);have H:((Qb6.f k l0_0 a1).bind fun t537=>(if t537=true then ((Qcg.f k l0_0).bind fun t541=>((Qba.f k t541).bind fun t542=>(Qbc.l0 k a1 (([] :List Int)) t541 t542 (t542.length:Int) 0 l0_0))) else (some (0,false))))=some (r1,r2):=h;clear h;obtain ⟨t537,A3,H⟩:=bs H;(try dsimp only at H)
 by_cases c4:t537=true
 ·
  subst c4;rw [if_pos rfl] at H;obtain ⟨y538,hy538⟩: ∃ y_:List Int,y_=(([] :List Int)):=⟨_,rfl⟩
  replace H:((Qcg.f k l0_0).bind fun t541=>((Qba.f k t541).bind fun t542=>(Qbc.l0 k a1 y538 t541 t542 (t542.length:Int) 0 l0_0)))=some (r1,r2):=by first|(rw [hy538];with_reducible exact H)|(have H2_:=(Option.bind_some _ _).symm.trans H;rw [hy538];with_reducible exact H2_)|(have H2_:=(Option.bind_some _ _).symm.trans H;with_reducible exact H2_)|with_reducible exact H|(rw [hy538];exact H)|exact H
  have Ny538:=Aside0.mk hy538;clear hy538;obtain ⟨t541,A5,H⟩:=bs H;(try dsimp only at H)
  obtain ⟨t542,A6,H⟩:=bs H;(try dsimp only at H)
  have H':=Aside0.mk H;clear H;go_enter Tryz.func14,Tryz.ntmps14;go_wp2_with (first|(refine bE (N:=2) (cs:= #[.slice A0_0 l0_0.length c0_0]) (t:=26) ?_;intro gb536 hg w7 hbox hb;have BK536:=Aside0.mk (hbox);have GW536:=Aside0.mk ((gV hg (uB HB)));have GE536:=GW536;replace HB:=Aside0.mk (Qa (uB HB) hb);clear hb hbox hg;have hcz8_0:=bC BK536;have hfz8_0:=Qf BK536.out 0)|(refine gA (some 12) Tryz.func148 #[.agg #[.slice A0_0 l0_0.length c0_0], .int .i64 a1] ?_;(with_reducible refine (Qb6.calls k _ _ l0_0 a1 true _ (uD HR0_0 HB) HC0_0.out A3.out).mono ?_);rintro e w9 ⟨rfl,hb⟩;refine ⟨_,rfl,?_⟩;replace BK536:=Aside0.mk (Qc (uK BK536) hb);replace HB:=Aside0.mk (Qa (uB HB) hb);(try clear hb))|((with_reducible refine Qc0 (N:=14) rfl ?_);refine Kd.R_lit (Kd.int .i64) _ 3 ?hg (N:=14) ?hd (xs:=([] :List Int)) (inner:= []) (ok:=fun _=>True) (okp:=fun _=>True) ?hr ?hp (fun _ hk=>hk) trivial (Below.refl _ _) (Nat.le_refl _) (by simp) ?_;(case hd=>rfl);(case hg=>rfl);(case hr=>first|(go_simp;done)|(go_simp;rfl));(case hp=>exact (Reps.none _ _));intro v539 w10 ho11 hb hg_ hnew_;clear hg_ hnew_;(first|rw [←Ny538.out] at ho11|(simp only [Int.reduceToNat] at ho11;rw [←Ny538.out] at ho11));have HO540:=Aside0.mk (Kd.R_lower ho11 (Qp (uB HB)));replace BK536:=Aside0.mk (Qc (uK BK536) hb);replace HB:=Aside0.mk (Qa (uB HB) hb);clear hb ho11;have hcz12_0:=bC BK536;have hfz12_0:=Qf BK536.out 0)|(refine gA (some 16) Tryz.func151 #[.agg #[.slice A0_0 l0_0.length c0_0]] ?_;(with_reducible refine (Qcg.calls k _ _ l0_0 t541 _ (uD HR0_0 HB) HC0_0.out A5.out).mono ?_);rintro e w13 ⟨rfl,hb⟩;refine ⟨_,rfl,?_⟩;replace HO540:=Aside0.mk (Kd.R_below (uR HO540) hb);replace BK536:=Aside0.mk (Qc (uK BK536) hb);replace HB:=Aside0.mk (Qa (uB HB) hb);(try clear hb))|(refine gA (some 18) Tryz.func150 #[.int .i64 t541] ?_;(with_reducible refine (Qba.calls k t541 t542 _ A6.out).mono ?_);rintro e w14 ⟨v543,rfl,ho0,hb⟩;refine ⟨_,rfl,?_⟩;have HO544:=Aside0.mk (Kd.R_lower (Kd.R_new' ho0 (Kd.R_lt (uR HO540))) (Qp (uB HB)));replace HO540:=Aside0.mk (Kd.R_elder' (uR HO540) (Kd.R_base ho0) hb);replace BK536:=Aside0.mk (Qc (uK BK536) hb);replace HB:=Aside0.mk (Qa (uB HB) hb);(try clear hb ho0);obtain ⟨Ao15,co15,eo15⟩:=Kd.R_slice HO544.out;subst eo15))
  go_loopg [6,20] k (fun kq v6 v20 w'=> ∃ (x6_1:List Int) (x20_1:Int),v20= .int .i64 x20_1∧Aside0 (Qbc.l0 kq a1 x6_1 t541 t542 (t542.length:Int) x20_1 l0_0=some (r1,r2))∧Aside0 (kq≤k)∧Aside0 (Kd.R (Kd.int .i64) 3 w' w.heap.size (fun k_=>some k_≠((.slice Ao15 t542.length co15):Value).ownBlock) v6 x6_1)∧Aside0 (Kd.R (Kd.int .i64) 3 w' w.heap.size (fun k_=>some k_≠(v6:Value).ownBlock) (.slice Ao15 t542.length co15) t542)∧Aside0 (w'.heap[gb536]? =some (.cells #[(.slice A0_0 l0_0.length c0_0)] 26 (0,0)))∧Aside0 (Below w.heap.size w w'))
  case atStart=>exact ⟨(y538),(0),(by first|rfl|(simp;done)|(simp [*];done)),H',⟨Nat.le_refl _⟩,⟨by (with_reducible repeat (first|apply Kd.R_alloc|apply Kd.R_drewN|apply Kd.R_drew));exact Kd.R_mono HO540.out (fun _ hk=>hk.2)⟩,⟨by (with_reducible repeat (first|apply Kd.R_alloc|apply Kd.R_drewN|apply Kd.R_drew));exact Kd.R_mono HO544.out (fun _ hk=>hk.2)⟩,⟨uK BK536⟩,⟨uB HB⟩⟩
  case round=>
   clear H'
   try clear c1
   try clear p2
   try clear c4
   try clear c14
   try clear c15
   try clear hcz12_0
   try clear hcz8_0
   try clear hfz12_0
   try clear hfz8_0
   obtain ⟨x6_1,x20_1,rfl,HA,HK1,HO_6,HO_18,BK536,HB⟩:=hrel;cases gk with
   |zero=>exact absurd HA.out (by simp [Qbc.l0])
   |succ k1=>
    have H:=HA.out;clear HA;simp only [Qbc.l0] at H
    by_cases c16:x20_1<(t542.length:Int)
    ·
     rw [if_pos c16] at H;have c16b0:=decide_eq_true c16;clear c16
     by_cases c17:0≤x20_1
     ·
      rw [if_pos c17] at H;have c17b0:=decide_eq_true c17;clear c17
      by_cases c18:x20_1<(t542.length:Int)
      ·
       rw [if_pos c18] at H;have c18b0:=decide_eq_true c18;clear c18
       by_cases c19:x6_1.length<17592186044416
       ·
        rw [if_pos c19] at H;have LMc19:=Aside0.mk c19;clear c19;obtain ⟨y546,hy546⟩: ∃ y_:List Int,y_=(x6_1++ [wrap64 (t541 - (rd t542 x20_1))]):=⟨_,rfl⟩
        replace H:(Qbc.l0 k1 a1 y546 t541 t542 (t542.length:Int) (wrap64 (x20_1+1)) l0_0)=some (r1,r2):=by first|(rw [hy546];with_reducible exact H)|(have H2_:=(Option.bind_some _ _).symm.trans H;rw [hy546];with_reducible exact H2_)|(have H2_:=(Option.bind_some _ _).symm.trans H;with_reducible exact H2_)|with_reducible exact H|(rw [hy546];exact H)|exact H
        have Ny546:=Aside0.mk hy546;clear hy546;have H':=Aside0.mk H;clear H;have p545:0≤(x20_1:Int):=of_decide_eq_true (by first|(with_reducible assumption)|assumption);have q545:x20_1<(t542.length:Int):=of_decide_eq_true (by first|(with_reducible assumption)|assumption);obtain ⟨ad545,e545,hx545_0⟩:=Kd.at_int (Kd.R_reads' HO_18.out).2.2 x20_1 p545 q545;cases e545;replace p545:=eq_true p545;replace q545:=eq_true q545;go_wp2_with (first|((with_reducible refine Qc4 (b:= .append) (xs:= #[.tmp 24, .tmp 28]) rfl ?_);at_builtin;refine Kd.R_append (Kd.int .i64) (w0:=w) w.heap.size rfl (.tmp 24) (.tmp 28) 24 3 (.int .i64 0) 8 rfl Tryz.underlying24 Qfm rfl (by decide) (by omega) u6 x6_1 (wrap64 (t541 - (rd t542 x20_1))) [.int .i64 (wrap64 (t541 - (rd t542 x20_1)))] (fun k_=>some k_≠(.slice (some ad545) t542.length co15:Value).ownBlock) (fun _=>False) rfl rfl ?aP (fun _ hk=>hk.elim) ?aF ?aO ?aB ?aS ?aL ?_;(case aP=>exact rfl);(case aB=>exact (uB HB));(case aF=>exact (fun k_ hk=>Kd.fresh' (Kd.R_lt (uR HO_18)) k_ hk));(case aO=>exact (uR HO_6));(case aS=>exact (Qp (uB HB)));(case aL=>have:=LMc19.out;omega);intro v547 w20 ho hb hg hat;rw [←Ny546.out] at ho;replace HO_18:=Aside0.mk (Kd.R_after (ok:=(fun _=>True)) (by (with_reducible repeat (first|apply Kd.R_alloc|apply Kd.R_drewN|apply Kd.R_drew));exact Kd.R_mono HO_18.out (fun _ hk=>⟨trivial,hk⟩)) hg hat);replace BK536:=Aside0.mk (Qds (uK BK536) hg (Kd.R_ne HO_6.out BK536.out (by decide)));replace HB:=Aside0.mk (hb);have HO548:=Aside0.mk (ho);clear HO_6;clear ho hb hg hat));go_roundg k1
        case measure=>have:=HK1.out;omega
        case rel=>exact ⟨(y546),(wrap64 (x20_1+1)),(by first|rfl|(simp;done)|(simp [*];done)),H',⟨by have:=HK1.out;omega⟩,⟨uR HO548⟩,⟨by (with_reducible repeat (first|apply Kd.R_alloc|apply Kd.R_drewN|apply Kd.R_drew));exact Kd.R_mono HO_18.out (fun _ hk=>hk.2)⟩,⟨uK BK536⟩,⟨uB HB⟩⟩
       ·
        rw [if_neg c19] at H;exact absurd H (by simp)
      ·
       rw [if_neg c18] at H;exact absurd H (by simp)
     ·
      rw [if_neg c17] at H;exact absurd H (by simp)
    ·
     rw [if_neg c16] at H;have c16b0:=decide_eq_false c16;clear c16;obtain ⟨t549,A21,H⟩:=bs H;(try dsimp only at H)
     simp only [Option.some.injEq,Prod.mk.injEq] at H;obtain ⟨rfl,rfl⟩:=H;have hcz22_0:=bC BK536;have hfz22_0:=Qf BK536.out 0;obtain ⟨Ao23,co23,eo23⟩:=Kd.R_slice HO_6.out;subst eo23;go_wp2_with (first|(refine gA (some 34) Tryz.func149 #[.agg #[.slice A0_0 l0_0.length c0_0], .int .i64 a1, .slice Ao23 x6_1.length co23] ?_;(with_reducible refine (Ql.calls k1 _ _ l0_0 a1 _ _ x6_1 t549 _ (uD HR0_0 HB) HC0_0.out (uE HO_6) ?side4 A21.out).mono ?_);(case side4=>exact (Kd.R_reads' HO_6.out).2.1);rintro e w24 ⟨rfl,hb⟩;refine ⟨_,rfl,?_⟩;replace HO_6:=Aside0.mk (Kd.R_below (uR HO_6) hb);replace HO_18:=Aside0.mk (Kd.R_below (uR HO_18) hb);replace BK536:=Aside0.mk (Qc (uK BK536) hb);replace HB:=Aside0.mk (Qa (uB HB) hb);(try clear hb)))
     go_ret2
     exact ⟨by first|rfl|(simp [Qd,Qe] <;>rfl)|(simp [*,Qd,Qe] <;>rfl),uB HB⟩
 ·
  replace c4:=Bool.eq_false_iff.mpr c4;subst c4;rw [if_neg (show ¬ (false=true) by decide)] at H;simp only [Option.some.injEq,Prod.mk.injEq] at H;obtain ⟨rfl,rfl⟩:=H;go_enter Tryz.func14,Tryz.ntmps14;go_wp2_with (first|(refine bE (N:=2) (cs:= #[.slice A0_0 l0_0.length c0_0]) (t:=26) ?_;intro gb536 hg w25 hbox hb;have BK536:=Aside0.mk (hbox);have GW536:=Aside0.mk ((gV hg (uB HB)));have GE536:=GW536;replace HB:=Aside0.mk (Qa (uB HB) hb);clear hb hbox hg;have hcz26_0:=bC BK536;have hfz26_0:=Qf BK536.out 0)|(refine gA (some 12) Tryz.func148 #[.agg #[.slice A0_0 l0_0.length c0_0], .int .i64 a1] ?_;(with_reducible refine (Qb6.calls k _ _ l0_0 a1 false _ (uD HR0_0 HB) HC0_0.out A3.out).mono ?_);rintro e w27 ⟨rfl,hb⟩;refine ⟨_,rfl,?_⟩;replace BK536:=Aside0.mk (Qc (uK BK536) hb);replace HB:=Aside0.mk (Qa (uB HB) hb);(try clear hb)))
  go_ret2
  exact ⟨by first|rfl|(simp [Qd,Qe] <;>rfl)|(simp [*,Qd,Qe] <;>rfl),uB HB⟩
mutual
def Q1.l0 : Nat → Int → List Int → Int → List Int → Option (Int × Bool)
 |0,_,_,_,_=>none
 |k+1,x1,x7,x8,x551000=>if x8 ≥ 0 then (Q1.l1 k x1 x7 x8 0 x551000) else ((Qbt.f k x551000 x1 x7).bind fun t555=>(some (t555,true)))
def Q1.l1 : Nat → Int → List Int → Int → Int → List Int → Option (Int × Bool)
 |0,_,_,_,_,_=>none
 |k+1,x1,x7,x8,x9,x551000=>if x9≤x8 then (if x7.length<17592186044416 then (Q1.l1 k x1 (x7++ [x9]) x8 (wrap64 (x9+1)) x551000) else (none)) else (Q1.l0 k x1 x7 (wrap64 (x8 - 1)) x551000)
end
def Q1.f (k : Nat) (l0_0 : List Int) (a1 : Int) : Option (Int × Bool) := (Qdi.f k l0_0 a1).bind fun t551 => (if t551 = true then ((Q9.f k l0_0).bind fun t552 => (Q1.l0 k a1 ([] : List Int) (wrap64 ((t552.length : Int) - 1)) l0_0)) else (some (0, false)))
theorem Q1.mono_l : ∀ k, (∀ y0 y1 y2 y3, LeO (Q1.l0 k y0 y1 y2 y3) (Q1.l0 (k + 1) y0 y1 y2 y3)) ∧ (∀ y0 y1 y2 y3 y4, LeO (Q1.l1 k y0 y1 y2 y3 y4) (Q1.l1 (k + 1) y0 y1 y2 y3 y4))
 |0=>⟨fun _ _ _ _ r h=>by simp [Q1.l0] at h,fun _ _ _ _ _ r h=>by simp [Q1.l1] at h⟩
 |k+1=>by
  obtain ⟨ih0,ih1⟩:=Q1.mono_l k;refine ⟨?_,?_⟩
  all_goals
   intros
   first|unfold Q1.l0|unfold Q1.l1
   repeat' (with_reducible first|apply ih0|apply ih1|apply Qdi.mono|apply Q9.mono|apply Qbt.mono|exact LeO.refl _|exact LeO.none _|refine LeO.ite ?_ ?_|refine LeO.bind ?_ (fun _=> ?_))
theorem Q1.mono : ∀ a0 a1 k, LeO (Q1.f k a0 a1) (Q1.f (k + 1) a0 a1) := by
 intro a0 a1 k;obtain ⟨ih0,ih1⟩:=Q1.mono_l k;unfold Q1.f
 repeat' (with_reducible first|apply ih0|apply ih1|apply Qdi.mono|apply Q9.mono|apply Qbt.mono|exact LeO.refl _|exact LeO.none _|refine LeO.ite ?_ ?_|refine LeO.bind ?_ (fun _=> ?_))
set_option maxHeartbeats 8000000 in
set_option maxRecDepth 100000 in
theorem Q1.calls (k : Nat) (A0_0 : Option Addr) (c0_0 : Nat) (l0_0 : List Int) (a1 : Int) (r1 : Int) (r2 : Bool) (w : World) (hr0_0 : Kd.C (Kd.int .i64) w A0_0 l0_0.length l0_0) (hc0_0 : l0_0.length ≤ c0_0) (h : Q1.f k l0_0 a1 = some (r1, r2)) :
 Calls Tryz.prog 15 #[.agg #[.slice A0_0 l0_0.length c0_0], .int .i64 a1] w fun e w'=>e= .returned (.tuple #[.int .i64 r1, .bool r2])∧Below w.heap.size w w':=by
 have hu26:=Tryz.underlying26;have HR0_0:=Aside0.mk hr0_0;have HC0_0:=Aside0.mk hc0_0;clear hr0_0 hc0_0;have HB:=Aside0.mk (Below.refl w.heap.size w);have H:((Qdi.f k l0_0 a1).bind fun t551=>(if t551=true then ((Q9.f k l0_0).bind fun t552=>(Q1.l0 k a1 ([] :List Int) (wrap64 ((t552.length:Int) - 1)) l0_0)) else (some (0,false))))=some (r1,r2):=h;clear h;obtain ⟨t551,A3,H⟩:=bs H;(try dsimp only at H)
 by_cases c4:t551=true
 ·
  subst c4;rw [if_pos rfl] at H;obtain ⟨t552,A5,H⟩:=bs H;(try dsimp only at H)
  have H':=Aside0.mk H;clear H;go_enter Tryz.func15,Tryz.ntmps15;go_wp2_with (first|(refine bE (N:=2) (cs:= #[.slice A0_0 l0_0.length c0_0]) (t:=26) ?_;intro gb550 hg w6 hbox hb;have BK550:=Aside0.mk (hbox);have GW550:=Aside0.mk ((gV hg (uB HB)));have GE550:=GW550;replace HB:=Aside0.mk (Qa (uB HB) hb);clear hb hbox hg;have hcz7_0:=bC BK550;have hfz7_0:=Qf BK550.out 0)|(refine gA (some 12) Tryz.func152 #[.agg #[.slice A0_0 l0_0.length c0_0], .int .i64 a1] ?_;(with_reducible refine (Qdi.calls k _ _ l0_0 a1 true _ (uD HR0_0 HB) HC0_0.out A3.out).mono ?_);rintro e w8 ⟨rfl,hb⟩;refine ⟨_,rfl,?_⟩;replace BK550:=Aside0.mk (Qc (uK BK550) hb);replace HB:=Aside0.mk (Qa (uB HB) hb);(try clear hb);have hcz9_0:=bC BK550;have hfz9_0:=Qf BK550.out 0)|(refine gA (some 15) Tryz.func155 #[.agg #[.slice A0_0 l0_0.length c0_0]] ?_;(with_reducible refine (Q9.calls k _ _ l0_0 t552 _ (uD HR0_0 HB) HC0_0.out A5.out).mono ?_);rintro e w10 ⟨v553,rfl,ho0,hb⟩;refine ⟨_,rfl,?_⟩;have HO554:=Aside0.mk (Kd.R_lower ho0 (Qp (uB HB)));replace BK550:=Aside0.mk (Qc (uK BK550) hb);replace HB:=Aside0.mk (Qa (uB HB) hb);(try clear hb ho0);obtain ⟨Ao11,co11,eo11⟩:=Kd.R_slice HO554.out;subst eo11))
  go_loopg [7,8] k (fun kq v7 v8 w'=> ∃ (x7_1:List Int) (x8_1:Int),v8= .int .i64 x8_1∧Aside0 (Q1.l0 kq a1 x7_1 x8_1 l0_0=some (r1,r2))∧Aside0 (kq≤k)∧Aside0 (Kd.R (Kd.int .i64) 3 w' w.heap.size (fun _=>True) v7 x7_1)∧Aside0 (w'.heap[gb550]? =some (.cells #[(.slice A0_0 l0_0.length c0_0)] 26 (0,0)))∧Aside0 (Below w.heap.size w w'))
  case atStart=>exact ⟨(([] :List Int)),(wrap64 ((t552.length:Int) - 1)),(by first|rfl|(simp;done)|(simp [*];done)),H',⟨Nat.le_refl _⟩,⟨by first|exact Kd.R_nil _ _ _ _ _|exact Kd.N_nil _ _ _ _ _|exact Kd.V_nil _ _ _ _ _|exact Kd.Q_nil _ _ _ _ _|exact Kd.S_nil _ _ _ _ _⟩,⟨uK BK550⟩,⟨uB HB⟩⟩
  case round=>
   clear H'
   try clear c1
   try clear p2
   try clear c4
   try clear p6
   try clear hcz7_0
   try clear hcz9_0
   try clear hfz7_0
   try clear hfz9_0
   obtain ⟨x7_1,x8_1,rfl,HA,HK1,HO_7,BK550,HB⟩:=hrel;cases gk with
   |zero=>exact absurd HA.out (by simp [Q1.l0])
   |succ k1=>
    have H:=HA.out;clear HA;simp only [Q1.l0] at H
    by_cases c12:x8_1 ≥ 0
    ·
     rw [if_pos c12] at H;have c12b0:=decide_eq_true c12;clear c12;have H':=Aside0.mk H;clear H;go_wp2
     go_loopg [7,9] k1 (fun kq v7 v9 w'=> ∃ (x7_2:List Int) (x9_2:Int),v9= .int .i64 x9_2∧Aside0 (Q1.l1 kq a1 x7_2 x8_1 x9_2 l0_0=some (r1,r2))∧Aside0 (kq≤k1)∧Aside0 (Kd.R (Kd.int .i64) 3 w' w.heap.size (fun _=>True) v7 x7_2)∧Aside0 (w'.heap[gb550]? =some (.cells #[(.slice A0_0 l0_0.length c0_0)] 26 (0,0)))∧Aside0 (Below w.heap.size w w'))
     case atStart=>exact ⟨(x7_1),(0),(by first|rfl|(simp;done)|(simp [*];done)),H',⟨Nat.le_refl _⟩,⟨uR HO_7⟩,⟨uK BK550⟩,⟨uB HB⟩⟩
     case round=>
      clear H'
      try clear c1
      try clear p2
      try clear c4
      try clear p6
      try clear c12
      try clear c12b0
      try clear hcz7_0
      try clear hcz9_0
      try clear hfz7_0
      try clear hfz9_0
      try clear p2
      try clear p6
      obtain ⟨x7_2,x9_2,rfl,HA,HK2,HO_7,BK550,HB⟩:=hrel;cases gk with
      |zero=>exact absurd HA.out (by simp [Q1.l1])
      |succ k2=>
       have H:=HA.out;clear HA;simp only [Q1.l1] at H
       by_cases c13:x9_2≤x8_1
       ·
        rw [if_pos c13] at H;have c13b0:=decide_eq_true c13;clear c13
        by_cases c14:x7_2.length<17592186044416
        ·
         rw [if_pos c14] at H;have LMc14:=Aside0.mk c14;clear c14;obtain ⟨y556,hy556⟩: ∃ y_:List Int,y_=(x7_2++ [x9_2]):=⟨_,rfl⟩
         replace H:(Q1.l1 k2 a1 y556 x8_1 (wrap64 (x9_2+1)) l0_0)=some (r1,r2):=by first|(rw [hy556];with_reducible exact H)|(have H2_:=(Option.bind_some _ _).symm.trans H;rw [hy556];with_reducible exact H2_)|(have H2_:=(Option.bind_some _ _).symm.trans H;with_reducible exact H2_)|with_reducible exact H|(rw [hy556];exact H)|exact H
         have Ny556:=Aside0.mk hy556;clear hy556;have H':=Aside0.mk H;clear H;go_wp2_with (first|((with_reducible refine Qc4 (b:= .append) (xs:= #[.tmp 28, .tmp 30]) rfl ?_);at_builtin;refine Kd.R_append (Kd.int .i64) (w0:=w) w.heap.size rfl (.tmp 28) (.tmp 30) 24 3 (.int .i64 0) 8 rfl Tryz.underlying24 Qfm rfl (by decide) (by omega) u7 x7_2 x9_2 [.int .i64 x9_2] (fun _=>True) (fun _=>False) rfl rfl ?aP (fun _ hk=>hk.elim) ?aF ?aO ?aB ?aS ?aL ?_;(case aP=>exact rfl);(case aB=>exact (uB HB));(case aF=>exact (fun _ _=>trivial));(case aO=>exact (uR HO_7));(case aS=>exact (Qp (uB HB)));(case aL=>have:=LMc14.out;omega);intro v557 w15 ho hb hg hat;rw [←Ny556.out] at ho;replace BK550:=Aside0.mk (Qds (uK BK550) hg (Kd.R_ne HO_7.out BK550.out (by decide)));replace HB:=Aside0.mk (hb);have HO558:=Aside0.mk (ho);clear HO_7;clear ho hb hg hat));go_roundg k2
         case measure=>have:=HK1.out;have:=HK2.out;omega
         case rel=>exact ⟨(y556),(wrap64 (x9_2+1)),(by first|rfl|(simp;done)|(simp [*];done)),H',⟨by have:=HK1.out;have:=HK2.out;omega⟩,⟨uR HO558⟩,⟨uK BK550⟩,⟨uB HB⟩⟩
        ·
         rw [if_neg c14] at H;exact absurd H (by simp)
       ·
        rw [if_neg c13] at H;have c13b0:=decide_eq_false c13;clear c13;have H':=Aside0.mk H;clear H;go_wp2;go_roundg k2
        case measure=>have:=HK1.out;have:=HK2.out;omega
        case rel=>exact ⟨(x7_2),(wrap64 (x8_1 - 1)),(by first|rfl|(simp;done)|(simp [*];done)),H',⟨by have:=HK1.out;have:=HK2.out;omega⟩,⟨uR HO_7⟩,⟨uK BK550⟩,⟨uB HB⟩⟩
    ·
     rw [if_neg c12] at H;have c12b0:=decide_eq_false c12;clear c12;obtain ⟨t555,A16,H⟩:=bs H;(try dsimp only at H)
     simp only [Option.some.injEq,Prod.mk.injEq] at H;obtain ⟨rfl,rfl⟩:=H;have hcz17_0:=bC BK550;have hfz17_0:=Qf BK550.out 0;obtain ⟨Ao18,co18,eo18⟩:=Kd.R_slice HO_7.out;subst eo18;go_wp2_with (first|(refine gA (some 35) Tryz.func153 #[.agg #[.slice A0_0 l0_0.length c0_0], .int .i64 a1, .slice Ao18 x7_1.length co18] ?_;(with_reducible refine (Qbt.calls k1 _ _ l0_0 a1 _ _ x7_1 t555 _ (uD HR0_0 HB) HC0_0.out (uE HO_7) ?side4 A16.out).mono ?_);(case side4=>exact (Kd.R_reads' HO_7.out).2.1);rintro e w19 ⟨rfl,hb⟩;refine ⟨_,rfl,?_⟩;replace HO_7:=Aside0.mk (Kd.R_below (uR HO_7) hb);replace BK550:=Aside0.mk (Qc (uK BK550) hb);replace HB:=Aside0.mk (Qa (uB HB) hb);(try clear hb)))
     go_ret2
     exact ⟨by first|rfl|(simp [Qd,Qe] <;>rfl)|(simp [*,Qd,Qe] <;>rfl),uB HB⟩
 ·
  replace c4:=Bool.eq_false_iff.mpr c4;subst c4;rw [if_neg (show ¬ (false=true) by decide)] at H;simp only [Option.some.injEq,Prod.mk.injEq] at H;obtain ⟨rfl,rfl⟩:=H;go_enter Tryz.func15,Tryz.ntmps15;go_wp2_with (first|(refine bE (N:=2) (cs:= #[.slice A0_0 l0_0.length c0_0]) (t:=26) ?_;intro gb550 hg w20 hbox hb;have BK550:=Aside0.mk (hbox);have GW550:=Aside0.mk ((gV hg (uB HB)));have GE550:=GW550;replace HB:=Aside0.mk (Qa (uB HB) hb);clear hb hbox hg;have hcz21_0:=bC BK550;have hfz21_0:=Qf BK550.out 0)|(refine gA (some 12) Tryz.func152 #[.agg #[.slice A0_0 l0_0.length c0_0], .int .i64 a1] ?_;(with_reducible refine (Qdi.calls k _ _ l0_0 a1 false _ (uD HR0_0 HB) HC0_0.out A3.out).mono ?_);rintro e w22 ⟨rfl,hb⟩;refine ⟨_,rfl,?_⟩;replace BK550:=Aside0.mk (Qc (uK BK550) hb);replace HB:=Aside0.mk (Qa (uB HB) hb);(try clear hb)))
  go_ret2
  exact ⟨by first|rfl|(simp [Qd,Qe] <;>rfl)|(simp [*,Qd,Qe] <;>rfl),uB HB⟩
def Qb4.l0 : Nat → Int → Int → Int → List Int → Option (Int)
 |0,_,_,_,_=>none
 |k+1,x1,x7,x8,x560000=>if x8<x7 then ((Qcz.f k x560000 x1 x8).bind fun t561=>(Qb4.l0 k t561 x7 (wrap64 (x8+1)) x560000)) else (some x1)
def Qb4.f (k : Nat) (l0_0 : List Int) (a1 : Int) : Option (Int) := (Qcx.f l0_0).bind fun t560 => (Qb4.l0 k a1 t560 0 l0_0)
theorem Qb4.mono_l : ∀ k, (∀ y0 y1 y2 y3, LeO (Qb4.l0 k y0 y1 y2 y3) (Qb4.l0 (k + 1) y0 y1 y2 y3))
 |0=>fun _ _ _ _ r h=>by simp [Qb4.l0] at h
 |k+1=>by
  have ih0:=Qb4.mono_l k
  ·
   intro y0 y1 y2 y3;unfold Qb4.l0
   repeat' first
   |(with_reducible exact ih0 _ _ _ _)
   |(with_reducible exact Qcz.mono _ _ _ _)
   |(with_reducible exact LeO.refl _)
   |(with_reducible exact LeO.none _)
   |(with_reducible refine LeO.ite ?_ ?_)
   |(with_reducible refine LeO.bind ?_ (fun _=> ?_))
   |exact ih0 _ _ _ _
   |exact Qcz.mono _ _ _ _
   |exact LeO.none _
   |refine LeO.ite ?_ ?_
   |refine LeO.bind ?_ (fun _=> ?_)
theorem Qb4.mono : ∀ a0 a1 k, LeO (Qb4.f k a0 a1) (Qb4.f (k + 1) a0 a1) := by
 intro a0 a1 k;have ih0:=Qb4.mono_l k;unfold Qb4.f
 repeat' (with_reducible first|apply ih0|apply Qcz.mono|exact LeO.refl _|exact LeO.none _|refine LeO.ite ?_ ?_|refine LeO.bind ?_ (fun _=> ?_))
set_option maxHeartbeats 8000000 in
set_option maxRecDepth 100000 in
theorem Qb4.calls (k : Nat) (A0_0 : Option Addr) (c0_0 : Nat) (l0_0 : List Int) (a1 : Int) (r : Int) (w : World) (hr0_0 : Kd.C (Kd.int .i64) w A0_0 l0_0.length l0_0) (hc0_0 : l0_0.length ≤ c0_0) (h : Qb4.f k l0_0 a1 = some r) :
 Calls Tryz.prog 176 #[.agg #[.slice A0_0 l0_0.length c0_0], .int .i64 a1] w fun e w'=>e= .returned (.int .i64 r)∧Below w.heap.size w w':=by
 have hu26:=Tryz.underlying26;have HR0_0:=Aside0.mk hr0_0;have HC0_0:=Aside0.mk hc0_0;clear hr0_0 hc0_0;have HB:=Aside0.mk (Below.refl w.heap.size w);have H:((Qcx.f l0_0).bind fun t560=>(Qb4.l0 k a1 t560 0 l0_0))=some r:=h;clear h;obtain ⟨t560,A3,H⟩:=bs H;(try dsimp only at H)
 have H':=Aside0.mk H;clear H;go_enter Tryz.func176,Tryz.ntmps176;go_wp2_with (first|(refine bE (N:=2) (cs:= #[.slice A0_0 l0_0.length c0_0]) (t:=26) ?_;intro gb559 hg w4 hbox hb;have BK559:=Aside0.mk (hbox);have GW559:=Aside0.mk ((gV hg (uB HB)));have GE559:=GW559;replace HB:=Aside0.mk (Qa (uB HB) hb);clear hb hbox hg;have hcz5_0:=bC BK559;have hfz5_0:=Qf BK559.out 0)|(refine gA (some 7) Tryz.func244 #[.agg #[.slice A0_0 l0_0.length c0_0]] ?_;(with_reducible refine (Qcx.calls _ _ l0_0 t560 _ (uD HR0_0 HB) HC0_0.out A3.out).mono ?_);rintro e w6 ⟨rfl,hb⟩;refine ⟨_,rfl,?_⟩;replace BK559:=Aside0.mk (Qc (uK BK559) hb);replace HB:=Aside0.mk (Qa (uB HB) hb);(try clear hb)))
 go_loopg [1,8] k (fun kq v1 v8 w'=> ∃ (x1_1:Int) (x8_1:Int),v1= .int .i64 x1_1∧v8= .int .i64 x8_1∧Aside0 (Qb4.l0 kq x1_1 t560 x8_1 l0_0=some r)∧Aside0 (kq≤k)∧Aside0 (w'.heap[gb559]? =some (.cells #[(.slice A0_0 l0_0.length c0_0)] 26 (0,0)))∧Aside0 (Below w.heap.size w w'))
 case atStart=>exact ⟨(a1),(0),(by first|rfl|(simp;done)|(simp [*];done)),(by first|rfl|(simp;done)|(simp [*];done)),H',⟨Nat.le_refl _⟩,⟨uK BK559⟩,⟨uB HB⟩⟩
 case round=>
  clear H'
  try clear c1
  try clear c2
  try clear p2
  try clear hcz5_0
  try clear hfz5_0
  obtain ⟨x1_1,x8_1,rfl,rfl,HA,HK1,BK559,HB⟩:=hrel;cases gk with
  |zero=>exact absurd HA.out (by simp [Qb4.l0])
  |succ k1=>
   have H:=HA.out;clear HA;simp only [Qb4.l0] at H
   by_cases c7:x8_1<t560
   ·
    rw [if_pos c7] at H;have c7b0:=decide_eq_true c7;clear c7;obtain ⟨t561,A8,H⟩:=bs H;(try dsimp only at H)
    have H':=Aside0.mk H;clear H;have hcz9_0:=bC BK559;have hfz9_0:=Qf BK559.out 0;go_wp2_with (first|(refine gA (some 14) Tryz.func291 #[.agg #[.slice A0_0 l0_0.length c0_0], .int .i64 x1_1, .int .i64 x8_1] ?_;(with_reducible refine (Qcz.calls k1 _ _ l0_0 x1_1 x8_1 t561 _ (uD HR0_0 HB) HC0_0.out A8.out).mono ?_);rintro e w10 ⟨rfl,hb⟩;refine ⟨_,rfl,?_⟩;replace BK559:=Aside0.mk (Qc (uK BK559) hb);replace HB:=Aside0.mk (Qa (uB HB) hb);(try clear hb)));go_roundg k1
    case measure=>have:=HK1.out;omega
    case rel=>exact ⟨(t561),(wrap64 (x8_1+1)),(by first|rfl|(simp;done)|(simp [*];done)),(by first|rfl|(simp;done)|(simp [*];done)),H',⟨by have:=HK1.out;omega⟩,⟨uK BK559⟩,⟨uB HB⟩⟩
   ·
    rw [if_neg c7] at H;have c7b0:=decide_eq_false c7;clear c7;obtain rfl:=Option.some.inj H;go_wp2
    go_ret
    exact ⟨by first|rfl|(simp [Qd,Qe] <;>rfl)|(simp [*,Qd,Qe] <;>rfl),uB HB⟩
def Qb0.l0 : Nat → Int → Int → List Int → Int → Int → List Int → Option (Int)
 |0,_,_,_,_,_,_=>none
 |k+1,x1,x5,x9,x10,x11,x563000=>if x11<x10 then (if 0≤x11 then (if x11<(x9.length:Int) then (if 0≤(rd x9 x11) then (if (rd x9 x11)<(x563000.length:Int) then (if (Go.bits .and .i64 (rd x563000 (rd x9 x11)) x1)=0 then (Qb0.l0 k x1 (Go.bits .or .i64 x5 (shl .i64 1 (rd x9 x11))) x9 x10 (wrap64 (x11+1)) x563000) else (Qb0.l0 k x1 x5 x9 x10 (wrap64 (x11+1)) x563000)) else (none)) else (none)) else (none)) else (none)) else (some x5)
def Qb0.f (k : Nat) (l0_0 : List Int) (a1 : Int) : Option (Int) := (Qbn.f k a1).bind fun t563 => (Qb0.l0 k a1 0 t563 (t563.length : Int) 0 l0_0)
theorem Qb0.mono_l : ∀ k, (∀ y0 y1 y2 y3 y4 y5, LeO (Qb0.l0 k y0 y1 y2 y3 y4 y5) (Qb0.l0 (k + 1) y0 y1 y2 y3 y4 y5))
 |0=>fun _ _ _ _ _ _ r h=>by simp [Qb0.l0] at h
 |k+1=>by
  have ih0:=Qb0.mono_l k
  ·
   intro y0 y1 y2 y3 y4 y5;unfold Qb0.l0
   repeat' first
   |(with_reducible exact ih0 _ _ _ _ _ _)
   |(with_reducible exact Qbn.mono _ _)
   |(with_reducible exact LeO.refl _)
   |(with_reducible exact LeO.none _)
   |(with_reducible refine LeO.ite ?_ ?_)
   |(with_reducible refine LeO.bind ?_ (fun _=> ?_))
   |exact ih0 _ _ _ _ _ _
   |exact Qbn.mono _ _
   |exact LeO.none _
   |refine LeO.ite ?_ ?_
   |refine LeO.bind ?_ (fun _=> ?_)
theorem Qb0.mono : ∀ a0 a1 k, LeO (Qb0.f k a0 a1) (Qb0.f (k + 1) a0 a1) := by
 intro a0 a1 k;have ih0:=Qb0.mono_l k;unfold Qb0.f
 repeat' (with_reducible first|apply ih0|apply Qbn.mono|exact LeO.refl _|exact LeO.none _|refine LeO.ite ?_ ?_|refine LeO.bind ?_ (fun _=> ?_))
set_option maxHeartbeats 8000000 in
set_option maxRecDepth 100000 in
theorem Qb0.calls (k : Nat) (A0_0 : Option Addr) (c0_0 : Nat) (l0_0 : List Int) (a1 : Int) (r : Int) (w : World) (hr0_0 : Kd.C (Kd.int .i64) w A0_0 l0_0.length l0_0) (hc0_0 : l0_0.length ≤ c0_0) (h : Qb0.f k l0_0 a1 = some r) :
 Calls Tryz.prog 307 #[.agg #[.slice A0_0 l0_0.length c0_0], .int .i64 a1] w fun e w'=>e= .returned (.int .i64 r)∧Below w.heap.size w w':=by
 have hu26:=Tryz.underlying26;have HR0_0:=Aside0.mk hr0_0;have HC0_0:=Aside0.mk hc0_0;clear hr0_0 hc0_0;have HB:=Aside0.mk (Below.refl w.heap.size w);have H:((Qbn.f k a1).bind fun t563=>(Qb0.l0 k a1 0 t563 (t563.length:Int) 0 l0_0))=some r:=h;clear h;obtain ⟨t563,A3,H⟩:=bs H;(try dsimp only at H)
 have H':=Aside0.mk H;clear H;go_enter Tryz.func307,Tryz.ntmps307;go_wp2_with (first|(refine bE (N:=2) (cs:= #[.slice A0_0 l0_0.length c0_0]) (t:=26) ?_;intro gb562 hg w4 hbox hb;have BK562:=Aside0.mk (hbox);have GW562:=Aside0.mk ((gV hg (uB HB)));have GE562:=GW562;replace HB:=Aside0.mk (Qa (uB HB) hb);clear hb hbox hg)|(refine gA (some 9) Tryz.func277 #[.int .i64 a1] ?_;(with_reducible refine (Qbn.calls k a1 t563 _ A3.out).mono ?_);rintro e w5 ⟨v564,rfl,ho0,hb⟩;refine ⟨_,rfl,?_⟩;have HO565:=Aside0.mk (Kd.R_lower ho0 (Qp (uB HB)));replace BK562:=Aside0.mk (Qc (uK BK562) hb);replace HB:=Aside0.mk (Qa (uB HB) hb);(try clear hb ho0);obtain ⟨Ao6,co6,eo6⟩:=Kd.R_slice HO565.out;subst eo6))
 go_loopg [5,11] k (fun kq v5 v11 w'=> ∃ (x5_1:Int) (x11_1:Int),v5= .int .i64 x5_1∧v11= .int .i64 x11_1∧Aside0 (Qb0.l0 kq a1 x5_1 t563 (t563.length:Int) x11_1 l0_0=some r)∧Aside0 (kq≤k)∧Aside0 (Kd.R (Kd.int .i64) 3 w' w.heap.size (fun _=>True) (.slice Ao6 t563.length co6) t563)∧Aside0 (w'.heap[gb562]? =some (.cells #[(.slice A0_0 l0_0.length c0_0)] 26 (0,0)))∧Aside0 (Below w.heap.size w w'))
 case atStart=>exact ⟨(0),(0),(by first|rfl|(simp;done)|(simp [*];done)),(by first|rfl|(simp;done)|(simp [*];done)),H',⟨Nat.le_refl _⟩,⟨uR HO565⟩,⟨uK BK562⟩,⟨uB HB⟩⟩
 case round=>
  clear H'
  try clear c2
  try clear p2
  try clear c3
  obtain ⟨x5_1,x11_1,rfl,rfl,HA,HK1,HO_9,BK562,HB⟩:=hrel;cases gk with
  |zero=>exact absurd HA.out (by simp [Qb0.l0])
  |succ k1=>
   have H:=HA.out;clear HA;simp only [Qb0.l0] at H
   by_cases c7:x11_1<(t563.length:Int)
   ·
    rw [if_pos c7] at H;have c7b0:=decide_eq_true c7;clear c7
    by_cases c8:0≤x11_1
    ·
     rw [if_pos c8] at H;have c8b0:=decide_eq_true c8;clear c8
     by_cases c9:x11_1<(t563.length:Int)
     ·
      rw [if_pos c9] at H;have c9b0:=decide_eq_true c9;clear c9
      by_cases c10:0≤(rd t563 x11_1)
      ·
       rw [if_pos c10] at H;have c10b0:=decide_eq_true c10;clear c10
       by_cases c11:(rd t563 x11_1)<(l0_0.length:Int)
       ·
        rw [if_pos c11] at H;have c11b0:=decide_eq_true c11;clear c11
        by_cases c12:(Go.bits .and .i64 (rd l0_0 (rd t563 x11_1)) a1)=0
        ·
         rw [if_pos c12] at H;have c12b0:((Go.bits .and .i64 (rd l0_0 (rd t563 x11_1)) a1)==0)=true:=beq_iff_eq.mpr c12;have c12b1:((Go.bits .and .i64 (rd l0_0 (rd t563 x11_1)) a1) !=0)=false:=bne_eq_false_iff_eq.mpr c12;clear c12;have c13b0:=eq_true (of_decide_eq_true (by first|(with_reducible assumption)|assumption):0≤(rd t563 x11_1));obtain ⟨ji14,hji14⟩: ∃ j_:Int,(shl .i64 1 (rd t563 x11_1))=j_:=⟨_,rfl⟩
         replace H:(Qb0.l0 k1 a1 (Go.bits .or .i64 x5_1 (ji14)) t563 (t563.length:Int) (wrap64 (x11_1+1)) l0_0)=some r:=by first|(rw [hji14] at H;exact H)|(simp only [hji14] at H ⊢;exact H)
         have hji14_:(IntKind.i64.wrap (1*2 ^ min (rd t563 x11_1).toNat 64))=ji14:=hji14;have hji14z:(rd t563 x11_1)≤64→(IntKind.i64.wrap (1*2 ^ (rd t563 x11_1).toNat))=ji14:=Qd1 hji14;have hji14u:(IntKind.i64.wrap (2 ^ min (rd t563 x11_1).toNat 64))=ji14:=by have h_:=hji14_;rw [Int.one_mul] at h_;exact h_
         have hji14v:(rd t563 x11_1)≤64→(IntKind.i64.wrap (2 ^ (rd t563 x11_1).toNat))=ji14:=fun hle_=>by have h_:=hji14z hle_;rw [Int.one_mul] at h_;exact h_
         have hji14y:(wrap64 (1*2 ^ min (rd t563 x11_1).toNat 64))=ji14:=(Qcu _).symm.trans hji14_;have hji14x:(rd t563 x11_1)≤64→(wrap64 (1*2 ^ (rd t563 x11_1).toNat))=ji14:=fun h_=>(Qcu _).symm.trans (hji14z h_)
         have H':=Aside0.mk H;clear H;have p566:0≤(x11_1:Int):=of_decide_eq_true (by first|(with_reducible assumption)|assumption);have q566:x11_1<(t563.length:Int):=of_decide_eq_true (by first|(with_reducible assumption)|assumption);obtain ⟨ad566,e566,hx566_0⟩:=Kd.at_int (Kd.R_reads' HO_9.out).2.2 x11_1 p566 q566;cases e566;replace p566:=eq_true p566;replace q566:=eq_true q566;have hcz15_0:=bC BK562;have hfz15_0:=Qf BK562.out 0;have p567:0≤((rd t563 x11_1):Int):=of_decide_eq_true (by first|(with_reducible assumption)|assumption);have q567:(rd t563 x11_1)<(l0_0.length:Int):=of_decide_eq_true (by first|(with_reducible assumption)|assumption);obtain ⟨ad567,e567,hx567_0⟩:=Kd.at_int HR0_0.out (rd t563 x11_1) p567 q567;cases e567;replace hx567_0:=(HB.out.cell (World.block_lt_of_cell? w _ hx567_0)).trans hx567_0;replace p567:=eq_true p567;replace q567:=eq_true q567;go_wp2;go_roundg k1
         case measure=>have:=HK1.out;omega
         case rel=>exact ⟨(Go.bits .or .i64 x5_1 (ji14)),(wrap64 (x11_1+1)),(by first|rfl|(simp;done)|(simp only [←hji14] <;>(first|rfl|simp))|(simp [*];done)),(by first|rfl|(simp;done)|(simp [*];done)),H',⟨by have:=HK1.out;omega⟩,⟨uR HO_9⟩,⟨uK BK562⟩,⟨uB HB⟩⟩
        ·
         rw [if_neg c12] at H;have c12b0:((Go.bits .and .i64 (rd l0_0 (rd t563 x11_1)) a1)==0)=false:=beq_eq_false_iff_ne.mpr c12;have c12b1:((Go.bits .and .i64 (rd l0_0 (rd t563 x11_1)) a1) !=0)=true:=bne_iff_ne.mpr c12;have H':=Aside0.mk H;clear H;have p566:0≤(x11_1:Int):=of_decide_eq_true (by first|(with_reducible assumption)|assumption);have q566:x11_1<(t563.length:Int):=of_decide_eq_true (by first|(with_reducible assumption)|assumption);obtain ⟨ad566,e566,hx566_0⟩:=Kd.at_int (Kd.R_reads' HO_9.out).2.2 x11_1 p566 q566;cases e566;replace p566:=eq_true p566;replace q566:=eq_true q566;have hcz16_0:=bC BK562;have hfz16_0:=Qf BK562.out 0;have p567:0≤((rd t563 x11_1):Int):=of_decide_eq_true (by first|(with_reducible assumption)|assumption);have q567:(rd t563 x11_1)<(l0_0.length:Int):=of_decide_eq_true (by first|(with_reducible assumption)|assumption);obtain ⟨ad567,e567,hx567_0⟩:=Kd.at_int HR0_0.out (rd t563 x11_1) p567 q567;cases e567;replace hx567_0:=(HB.out.cell (World.block_lt_of_cell? w _ hx567_0)).trans hx567_0;replace p567:=eq_true p567;replace q567:=eq_true q567;go_wp2;go_roundg k1
         case measure=>have:=HK1.out;omega
         case rel=>exact ⟨(x5_1),(wrap64 (x11_1+1)),(by first|rfl|(simp;done)|(simp [*];done)),(by first|rfl|(simp;done)|(simp [*];done)),H',⟨by have:=HK1.out;omega⟩,⟨uR HO_9⟩,⟨uK BK562⟩,⟨uB HB⟩⟩
       ·
        rw [if_neg c11] at H;exact absurd H (by simp)
      ·
       rw [if_neg c10] at H;exact absurd H (by simp)
     ·
      rw [if_neg c9] at H;exact absurd H (by simp)
    ·
     rw [if_neg c8] at H;exact absurd H (by simp)
   ·
    rw [if_neg c7] at H;have c7b0:=decide_eq_false c7;clear c7;obtain rfl:=Option.some.inj H;go_wp2
    go_ret
    exact ⟨by first|rfl|(simp [Qd,Qe] <;>rfl)|(simp [*,Qd,Qe] <;>rfl),uB HB⟩
def Qc3.f (k : Nat) (l0_0 : List Int) (a1 : Int) : Option (Int) := (Qda.f l0_0).bind fun t569 => ((Qb0.f k l0_0 (Go.bits .andNot .i64 t569 a1)).bind fun t570 => ((Qbe.f k l0_0 t570).bind fun t571 => (some t571)))
theorem Qc3.mono : ∀ a0 a1 k, LeO (Qc3.f k a0 a1) (Qc3.f (k + 1) a0 a1) := by
 intro a0 a1 k;unfold Qc3.f
 repeat' (with_reducible first|apply Qb0.mono|apply Qbe.mono|exact LeO.refl _|exact LeO.none _|refine LeO.ite ?_ ?_|refine LeO.bind ?_ (fun _=> ?_))
def Qc3.T1 : Bool × List (List Nat × List Nat) := (true, [([], []), ([], []), ([], []), ([2], [2]), ([], []), ([3, 4], [3, 4]), ([1, 5, 3], [1, 5]), ([0, 6, 6], [0, 6]), ([7, 7, 0, 1, 2, 3, 4, 5, 6, 7], [7])])
def Qc3.B1 : List Nat := [0, 0, 0, 4, 0, 28, 62, 127, 255]
theorem Qc3.tab1 : rtab .any (Qf2 Tryz.f235 1) = Qc3.T1 := by kernel_rfl
theorem Qc3.bits1 : Qd9 Qc3.T1.2 Qc3.B1 = true := by kernel_rfl
set_option maxHeartbeats 8000000 in
set_option maxRecDepth 100000 in
theorem Qc3.calls (k : Nat) (A0_0 : Option Addr) (c0_0 : Nat) (l0_0 : List Int) (a1 : Int) (r : Int) (w : World) (hr0_0 : Kd.C (Kd.int .i64) w A0_0 l0_0.length l0_0) (hc0_0 : l0_0.length ≤ c0_0) (h : Qc3.f k l0_0 a1 = some r) :
 Calls Tryz.prog 235 #[.agg #[.slice A0_0 l0_0.length c0_0], .int .i64 a1] w fun e w'=>e= .returned (.int .i64 r)∧Below w.heap.size w w':=by
 have hu26:=Tryz.underlying26;have HR0_0:=Aside0.mk hr0_0;have HC0_0:=Aside0.mk hc0_0;clear hr0_0 hc0_0;have HB:=Aside0.mk (Below.refl w.heap.size w);have H:((Qda.f l0_0).bind fun t569=>((Qb0.f k l0_0 (Go.bits .andNot .i64 t569 a1)).bind fun t570=>((Qbe.f k l0_0 t570).bind fun t571=>(some t571))))=some r:=h;clear h;obtain ⟨t569,A3,H⟩:=bs H;(try dsimp only at H)
 obtain ⟨t570,A4,H⟩:=bs H;(try dsimp only at H)
 obtain ⟨t571,A5,H⟩:=bs H;(try dsimp only at H)
 obtain rfl:=Option.some.inj H;go_enter Tryz.func235,Tryz.ntmps235
 try go_wp2_with (first|(refine bE (N:=2) (cs:= #[.slice A0_0 l0_0.length c0_0]) (t:=26) ?_;intro gb568 hg w6 hbox hb;have BK568:=Aside0.mk (hbox);have GW568:=Aside0.mk ((gV hg (uB HB)));have GE568:=GW568;replace HB:=Aside0.mk (Qa (uB HB) hb);clear hb hbox hg))
 replace BK568:=Aside0.mk (Qj BK568.out);replace HB:=Aside0.mk (Qy HB.out);refine sU (n:=9) (S:=fun w'=>w'.cell? ⟨gb568,0,none⟩=some (.slice A0_0 l0_0.length c0_0)) (ds:= []) ((Qci BK568.out 0).trans rfl) (fun hHeld=> ?_);refine Qeg Qc3.tab1 Qc3.bits1 (fun HT_ HW_=> ?_);generalize w6.drew=w7 at BK568 HB hHeld ⊢;refine pU 4 9 ?_;refine tU 0 5 hHeld ?_;refine tU 1 6 hHeld ?_;refine tU 2 7 hHeld ?_;refine oU 3 (some 8) fun K hK=> ?_
 refine Qes Tryz.func290 (by kernel_rfl) rfl #[.agg #[.slice A0_0 l0_0.length c0_0]] (by rfl) rfl rfl (by (try simp only [List.map_toArray,List.map_cons,List.map_nil]);first|done|rfl|(simp only [List.length_drop,List.length_take];rfl)) ?_
 with_reducible refine (Qda.calls _ _ l0_0 t569 _ ?side1 ?side2 A3.out).mono ?_
 (case side1=>repeat (first|exact (Kd.C_below HR0_0.out HB.out)|(with_reducible refine Kd.C_alloc ?_ _)|(with_reducible refine Kd.C_drewN ?_ _)|(with_reducible refine Kd.C_drew ?_)))
 (case side2=>exact HC0_0.out)
 rintro e w8 ⟨rfl,hb⟩;refine ⟨_,rfl,?_⟩;replace BK568:=Aside0.mk (Qc (uK BK568) hb);replace HB:=Aside0.mk (Qa (uB HB) hb)
 skip
 skip
 skip
 skip
 refine hK.out _ _ ((Qci BK568.out 0).trans rfl) (fun hHeld=> ?_);clear hK K;refine nU 8 ?_;refine pU 5 10 ?_;refine oU 6 (some 11) fun K hK=> ?_
 refine Qes Tryz.func307 (by kernel_rfl) rfl #[.agg #[.slice A0_0 l0_0.length c0_0], .int .i64 (Go.bits .andNot .i64 t569 a1)] (by rfl) rfl rfl (by (try simp only [List.map_toArray,List.map_cons,List.map_nil]);first|done|rfl|(simp only [List.length_drop,List.length_take];rfl)) ?_
 with_reducible refine (Qb0.calls k _ _ l0_0 (Go.bits .andNot .i64 t569 a1) t570 _ ?side1 ?side2 A4.out).mono ?_
 (case side1=>repeat (first|exact (Kd.C_below HR0_0.out HB.out)|(with_reducible refine Kd.C_alloc ?_ _)|(with_reducible refine Kd.C_drewN ?_ _)|(with_reducible refine Kd.C_drew ?_)))
 (case side2=>exact HC0_0.out)
 rintro e w9 ⟨rfl,hb⟩;refine ⟨_,rfl,?_⟩;replace BK568:=Aside0.mk (Qc (uK BK568) hb);replace HB:=Aside0.mk (Qa (uB HB) hb)
 skip
 skip
 skip
 skip
 refine hK.out _ _ ((Qci BK568.out 0).trans rfl) (fun hHeld=> ?_);clear hK K;refine nU 11 ?_;refine oU 7 (some 12) fun K hK=> ?_
 refine Qes Tryz.func283 (by kernel_rfl) rfl #[.agg #[.slice A0_0 l0_0.length c0_0], .int .i64 t570] (by rfl) rfl rfl (by (try simp only [List.map_toArray,List.map_cons,List.map_nil]);first|done|rfl|(simp only [List.length_drop,List.length_take];rfl)) ?_
 with_reducible refine (Qbe.calls k _ _ l0_0 t570 t571 _ ?side1 ?side2 A5.out).mono ?_
 (case side1=>repeat (first|exact (Kd.C_below HR0_0.out HB.out)|(with_reducible refine Kd.C_alloc ?_ _)|(with_reducible refine Kd.C_drewN ?_ _)|(with_reducible refine Kd.C_drew ?_)))
 (case side2=>exact HC0_0.out)
 rintro e w10 ⟨rfl,hb⟩;refine ⟨_,rfl,?_⟩;replace BK568:=Aside0.mk (Qc (uK BK568) hb);replace HB:=Aside0.mk (Qa (uB HB) hb)
 skip
 skip
 skip
 skip
 refine hK.out _ _ ((Qci BK568.out 0).trans rfl) (fun hHeld=> ?_);clear hK K;refine nU 12 ?_;refine pU 8 4 ?_;refine dU ?_
 try go_wp2
 go_ret
 exact ⟨by first|rfl|(simp [Qd,Qe] <;>rfl)|(simp [*,Qd,Qe] <;>rfl),uB HB⟩
mutual
def Qbq.l0 : Nat → Int → Int → Int → Int → List Int → Option (Int)
 |0,_,_,_,_,_=>none
 |k+1,x1,x2,x8,x9,x573000=>if x9<x8 then ((Qc3.f k x573000 x1).bind fun t573=>(Qbq.l0 k t573 x2 x8 (wrap64 (x9+1)) x573000)) else (Qbq.l1 k x1 (mx (wrap64 (-x2)) 0) 0 x573000)
def Qbq.l1 : Nat → Int → Int → Int → List Int → Option (Int)
 |0,_,_,_,_=>none
 |k+1,x1,x17,x18,x573000=>if x18<x17 then ((Qb4.f k x573000 x1).bind fun t574=>(Qbq.l1 k t574 x17 (wrap64 (x18+1)) x573000)) else (some x1)
end
def Qbq.f (k : Nat) (l0_0 : List Int) (a1 : Int) (a2 : Int) : Option (Int) := Qbq.l0 k a1 a2 (mx a2 0) 0 l0_0
theorem Qbq.mono_l : ∀ k, (∀ y0 y1 y2 y3 y4, LeO (Qbq.l0 k y0 y1 y2 y3 y4) (Qbq.l0 (k + 1) y0 y1 y2 y3 y4)) ∧ (∀ y0 y1 y2 y3, LeO (Qbq.l1 k y0 y1 y2 y3) (Qbq.l1 (k + 1) y0 y1 y2 y3))
 |0=>⟨fun _ _ _ _ _ r h=>by simp [Qbq.l0] at h,fun _ _ _ _ r h=>by simp [Qbq.l1] at h⟩
 |k+1=>by
  obtain ⟨ih0,ih1⟩:=Qbq.mono_l k;refine ⟨?_,?_⟩
  all_goals
   intros
   first|unfold Qbq.l0|unfold Qbq.l1
   repeat' (with_reducible first|apply ih0|apply ih1|apply Qb4.mono|apply Qc3.mono|exact LeO.refl _|exact LeO.none _|refine LeO.ite ?_ ?_|refine LeO.bind ?_ (fun _=> ?_))
theorem Qbq.mono : ∀ a0 a1 a2 k, LeO (Qbq.f k a0 a1 a2) (Qbq.f (k + 1) a0 a1 a2) := by
 intro a0 a1 a2 k;obtain ⟨ih0,ih1⟩:=Qbq.mono_l k;unfold Qbq.f
 repeat' (with_reducible first|apply ih0|apply ih1|apply Qb4.mono|apply Qc3.mono|exact LeO.refl _|exact LeO.none _|refine LeO.ite ?_ ?_|refine LeO.bind ?_ (fun _=> ?_))
set_option maxHeartbeats 8000000 in
set_option maxRecDepth 100000 in
theorem Qbq.calls (k : Nat) (A0_0 : Option Addr) (c0_0 : Nat) (l0_0 : List Int) (a1 : Int) (a2 : Int) (r : Int) (w : World) (hr0_0 : Kd.C (Kd.int .i64) w A0_0 l0_0.length l0_0) (hc0_0 : l0_0.length ≤ c0_0) (h : Qbq.f k l0_0 a1 a2 = some r) :
 Calls Tryz.prog 160 #[.agg #[.slice A0_0 l0_0.length c0_0], .int .i64 a1, .int .i64 a2] w fun e w'=>e= .returned (.int .i64 r)∧Below w.heap.size w w':=by
 have hu26:=Tryz.underlying26;have HR0_0:=Aside0.mk hr0_0;have HC0_0:=Aside0.mk hc0_0;clear hr0_0 hc0_0;have HB:=Aside0.mk (Below.refl w.heap.size w);have H:(Qbq.l0 k a1 a2 (mx a2 0) 0 l0_0)=some r:=h;clear h;obtain ⟨ji4,hji4⟩: ∃ j_:Int,(mx a2 0)=j_:=⟨_,rfl⟩
 replace H:(Qbq.l0 k a1 a2 ji4 0 l0_0)=some r:=by first|(rw [hji4] at H;exact H)|(simp only [hji4] at H ⊢;exact H)
 (try (have hji4l:0≤ji4:=by (rw [←hji4];unfold mx;(repeat' split)<;>omega)))
 (try (have hji4m:0≤ji4:=by omega))
 have hji4_:(if a2<0 then 0 else a2)=ji4:=hji4;have H':=Aside0.mk H;clear H;go_enter Tryz.func160,Tryz.ntmps160;go_wp2_with (first|(refine bE (N:=3) (cs:= #[.slice A0_0 l0_0.length c0_0]) (t:=26) ?_;intro gb572 hg w5 hbox hb;have BK572:=Aside0.mk (hbox);have GW572:=Aside0.mk ((gV hg (uB HB)));have GE572:=GW572;replace HB:=Aside0.mk (Qa (uB HB) hb);clear hb hbox hg))
 go_loopg [1,9] k (fun kq v1 v9 w'=> ∃ (x1_1:Int) (x9_1:Int),v1= .int .i64 x1_1∧v9= .int .i64 x9_1∧Aside0 (Qbq.l0 kq x1_1 a2 ji4 x9_1 l0_0=some r)∧Aside0 (kq≤k)∧Aside0 (w'.heap[gb572]? =some (.cells #[(.slice A0_0 l0_0.length c0_0)] 26 (0,0)))∧Aside0 (Below w.heap.size w w'))
 case atStart=>exact ⟨(a1),(0),(by first|rfl|(simp;done)|(simp [*];done)),(by first|rfl|(simp;done)|(simp [*];done)),H',⟨Nat.le_refl _⟩,⟨uK BK572⟩,⟨uB HB⟩⟩
 case round=>
  clear H'
  try clear c1
  try clear p2
  obtain ⟨x1_1,x9_1,rfl,rfl,HA,HK1,BK572,HB⟩:=hrel;cases gk with
  |zero=>exact absurd HA.out (by simp [Qbq.l0])
  |succ k1=>
   have H:=HA.out;clear HA;simp only [Qbq.l0] at H
   by_cases c6:x9_1<ji4
   ·
    rw [if_pos c6] at H;have c6b0:=decide_eq_true c6;clear c6;obtain ⟨t573,A7,H⟩:=bs H;(try dsimp only at H)
    have H':=Aside0.mk H;clear H;have hcz8_0:=bC BK572;have hfz8_0:=Qf BK572.out 0;go_wp2_with (first|(refine gA (some 13) Tryz.func235 #[.agg #[.slice A0_0 l0_0.length c0_0], .int .i64 x1_1] ?_;(with_reducible refine (Qc3.calls k1 _ _ l0_0 x1_1 t573 _ (uD HR0_0 HB) HC0_0.out A7.out).mono ?_);rintro e w9 ⟨rfl,hb⟩;refine ⟨_,rfl,?_⟩;replace BK572:=Aside0.mk (Qc (uK BK572) hb);replace HB:=Aside0.mk (Qa (uB HB) hb);(try clear hb)));go_roundg k1
    case measure=>have:=HK1.out;omega
    case rel=>exact ⟨(t573),(wrap64 (x9_1+1)),(by first|rfl|(simp;done)|(simp [*];done)),(by first|rfl|(simp;done)|(simp [*];done)),H',⟨by have:=HK1.out;omega⟩,⟨uK BK572⟩,⟨uB HB⟩⟩
   ·
    rw [if_neg c6] at H;have c6b0:=decide_eq_false c6;clear c6;obtain ⟨ji10,hji10⟩: ∃ j_:Int,(mx (wrap64 (-a2)) 0)=j_:=⟨_,rfl⟩
    replace H:(Qbq.l1 k1 x1_1 ji10 0 l0_0)=some r:=by first|(rw [hji10] at H;exact H)|(simp only [hji10] at H ⊢;exact H)
    have hji10_:(if (wrap64 (-a2))<0 then 0 else (wrap64 (-a2)))=ji10:=hji10;have H':=Aside0.mk H;clear H;go_wp2
    go_loopg [1,18] k1 (fun kq v1 v18 w'=> ∃ (x1_2:Int) (x18_2:Int),v1= .int .i64 x1_2∧v18= .int .i64 x18_2∧Aside0 (Qbq.l1 kq x1_2 ji10 x18_2 l0_0=some r)∧Aside0 (kq≤k1)∧Aside0 (w'.heap[gb572]? =some (.cells #[(.slice A0_0 l0_0.length c0_0)] 26 (0,0)))∧Aside0 (Below w.heap.size w w'))
    case atStart=>exact ⟨(x1_1),(0),(by first|rfl|(simp;done)|(simp [*];done)),(by first|rfl|(simp;done)|(simp [*];done)),H',⟨Nat.le_refl _⟩,⟨uK BK572⟩,⟨uB HB⟩⟩
    case round=>
     clear H'
     try clear c1
     try clear c2
     try clear p2
     try clear c6
     try clear c6b0
     try clear p6
     try clear hcz8_0
     try clear hfz8_0
     try clear p2
     obtain ⟨x1_2,x18_2,rfl,rfl,HA,HK2,BK572,HB⟩:=hrel;cases gk with
     |zero=>exact absurd HA.out (by simp [Qbq.l1])
     |succ k2=>
      have H:=HA.out;clear HA;simp only [Qbq.l1] at H
      by_cases c11:x18_2<ji10
      ·
       rw [if_pos c11] at H;have c11b0:=decide_eq_true c11;clear c11;obtain ⟨t574,A12,H⟩:=bs H;(try dsimp only at H)
       have H':=Aside0.mk H;clear H;have hcz13_0:=bC BK572;have hfz13_0:=Qf BK572.out 0;go_wp2_with (first|(refine gA (some 22) Tryz.func176 #[.agg #[.slice A0_0 l0_0.length c0_0], .int .i64 x1_2] ?_;(with_reducible refine (Qb4.calls k2 _ _ l0_0 x1_2 t574 _ (uD HR0_0 HB) HC0_0.out A12.out).mono ?_);rintro e w14 ⟨rfl,hb⟩;refine ⟨_,rfl,?_⟩;replace BK572:=Aside0.mk (Qc (uK BK572) hb);replace HB:=Aside0.mk (Qa (uB HB) hb);(try clear hb)));go_roundg k2
       case measure=>have:=HK1.out;have:=HK2.out;omega
       case rel=>exact ⟨(t574),(wrap64 (x18_2+1)),(by first|rfl|(simp;done)|(simp [*];done)),(by first|rfl|(simp;done)|(simp [*];done)),H',⟨by have:=HK1.out;have:=HK2.out;omega⟩,⟨uK BK572⟩,⟨uB HB⟩⟩
      ·
       rw [if_neg c11] at H;have c11b0:=decide_eq_false c11;clear c11;obtain rfl:=Option.some.inj H;go_wp2
       go_ret
       exact ⟨by first|rfl|(simp [Qd,Qe] <;>rfl)|(simp only [←hji4,←hji10];first|rfl|(simp [Qd,Qe] <;>rfl))|(simp [*,Qd,Qe] <;>rfl),uB HB⟩
end Go.Proofs.YtkgngggppcmpfaaGreat.L
end
