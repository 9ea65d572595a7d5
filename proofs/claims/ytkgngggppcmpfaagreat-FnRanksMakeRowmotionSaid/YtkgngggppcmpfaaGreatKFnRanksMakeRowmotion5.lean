/- Laws about the given program: the law FnRanksMakeRowmotion answers true for every input that its row lets in; no condition is added to the given statement. Contracts of the Go functions that it reaches, and the plain proof over lists. -/
import Derived.Test.YtkgngggppcmpfaaGreatWFnRanksMakeRowmotion0
import Derived.Test.YtkgngggppcmpfaaGreatKFnRanksMakeRowmotion0
import Derived.Test.YtkgngggppcmpfaaGreatKFnRanksMakeRowmotion1
import Derived.Test.YtkgngggppcmpfaaGreatKFnRanksMakeRowmotion2
import Derived.Test.YtkgngggppcmpfaaGreatKFnRanksMakeRowmotion3
import Derived.Test.YtkgngggppcmpfaaGreatKFnRanksMakeRowmotion4
section
namespace Go.Proofs.YtkgngggppcmpfaaGreat.L
open Go.RowKit Go.Proofs.YtkgngggppcmpfaaGreatW.PrintWords Go.Proofs.YtkgngggppcmpfaaGreatW.PrintLast Go.Proofs.YtkgngggppcmpfaaGreatW.PrintMore Go.Proofs.YtkgngggppcmpfaaGreat.X
attribute [local go_sem] Q2 Q4 Qbb Qbc Qt Qu Q3 Q5
set_option linter.unusedVariables false
set_option linter.unusedSimpArgs false
def Qbu.l0 : Nat → Int → List Int → Int → Int → List Int → Option (Int)
 |0,_,_,_,_,_=>none
 |k+1,x1,x9,x10,x11,x462000=>if x11<x10 then (if 0≤x11 then (if x11<(x9.length:Int) then ((Qcu.f k x462000 x1 (rd x9 x11)).bind fun t463=>(Qbu.l0 k t463 x9 x10 (wrap64 (x11+1)) x462000)) else (none)) else (none)) else (some x1)
def Qbu.f (k : Nat) (l0_0 : List Int) (a1 : Int) (l2 : List Int) : Option (Int) := Qbu.l0 k a1 l2 (l2.length : Int) 0 l0_0
theorem Qbu.mono_l : ∀ k, (∀ y0 y1 y2 y3 y4, LeO (Qbu.l0 k y0 y1 y2 y3 y4) (Qbu.l0 (k + 1) y0 y1 y2 y3 y4))
 |0=>fun _ _ _ _ _ r h=>by simp [Qbu.l0] at h
 |k+1=>by
  have ih0:=Qbu.mono_l k
  ·
   intro y0 y1 y2 y3 y4;unfold Qbu.l0
   repeat' first
   |(with_reducible exact ih0 _ _ _ _ _)
   |(with_reducible exact Qcu.mono _ _ _ _)
   |(with_reducible exact LeO.refl _)
   |(with_reducible exact LeO.none _)
   |(with_reducible refine LeO.ite ?_ ?_)
   |(with_reducible refine LeO.bind ?_ (fun _=> ?_))
   |exact ih0 _ _ _ _ _
   |exact Qcu.mono _ _ _ _
   |exact LeO.none _
   |refine LeO.ite ?_ ?_
   |refine LeO.bind ?_ (fun _=> ?_)
theorem Qbu.mono : ∀ a0 a1 a2 k, LeO (Qbu.f k a0 a1 a2) (Qbu.f (k + 1) a0 a1 a2) := by
 intro a0 a1 a2 k;have ih0:=Qbu.mono_l k;unfold Qbu.f
 repeat' (with_reducible first|apply ih0|apply Qcu.mono|exact LeO.refl _|exact LeO.none _|refine LeO.ite ?_ ?_|refine LeO.bind ?_ (fun _=> ?_))
set_option maxHeartbeats 8000000 in
set_option maxRecDepth 100000 in
theorem Qbu.calls (k : Nat) (A0_0 : Option Addr) (c0_0 : Nat) (l0_0 : List Int) (a1 : Int) (A2 : Option Addr) (c2 : Nat) (l2 : List Int) (r : Int) (w : World) (hr0_0 : Kd.C (Kd.int .i64) w A0_0 l0_0.length l0_0) (hc0_0 : l0_0.length ≤ c0_0) (hr2 : Kd.C (Kd.int .i64) w A2 l2.length l2) (hc2 : l2.length ≤ c2) (h : Qbu.f k l0_0 a1 l2 = some r) :
 Calls Tryz.prog 276 #[.agg #[.slice A0_0 l0_0.length c0_0], .int .i64 a1, .slice A2 l2.length c2] w fun e w'=>e= .returned (.int .i64 r)∧Below w.heap.size w w':=by
 have hu26:=Tryz.underlying26;have HR0_0:=Aside0.mk hr0_0;have HC0_0:=Aside0.mk hc0_0;clear hr0_0 hc0_0;have HR2:=Aside0.mk hr2;have HC2:=Aside0.mk hc2;clear hr2 hc2;have HB:=Aside0.mk (Below.refl w.heap.size w);have H:(Qbu.l0 k a1 l2 (l2.length:Int) 0 l0_0)=some r:=h;clear h;have H':=Aside0.mk H;clear H;go_enter Tryz.func276,Tryz.ntmps276;go_wp2_with (first|(refine bE (N:=3) (cs:= #[.slice A0_0 l0_0.length c0_0]) (t:=26) ?_;intro gb461 hg w4 hbox hb;have BK461:=Aside0.mk (hbox);have GW461:=Aside0.mk ((gV hg (uB HB)));have GE461:=GW461;replace HB:=Aside0.mk (Qb (uB HB) hb);clear hb hbox hg))
 go_loopg [1,11] k (fun kq v1 v11 w'=> ∃ (x1_1:Int) (x11_1:Int),v1= .int .i64 x1_1∧v11= .int .i64 x11_1∧Aside0 (Qbu.l0 kq x1_1 l2 (l2.length:Int) x11_1 l0_0=some r)∧Aside0 (kq≤k)∧Aside0 (w'.heap[gb461]? =some (.cells #[(.slice A0_0 l0_0.length c0_0)] 26 (0,0)))∧Aside0 (Below w.heap.size w w'))
 case atStart=>exact ⟨(a1),(0),(by first|rfl|(simp;done)|(simp [*];done)),(by first|rfl|(simp;done)|(simp [*];done)),H',⟨Nat.le_refl _⟩,⟨uK BK461⟩,⟨uB HB⟩⟩
 case round=>
  clear H'
  try clear c2
  try clear p2
  obtain ⟨x1_1,x11_1,rfl,rfl,HA,HK1,BK461,HB⟩:=hrel;cases gk with
  |zero=>exact absurd HA.out (by simp [Qbu.l0])
  |succ k1=>
   have H:=HA.out;clear HA;simp only [Qbu.l0] at H
   by_cases c5:x11_1<(l2.length:Int)
   ·
    rw [if_pos c5] at H;have c5b0:=decide_eq_true c5;clear c5
    by_cases c6:0≤x11_1
    ·
     rw [if_pos c6] at H;have c6b0:=decide_eq_true c6;clear c6
     by_cases c7:x11_1<(l2.length:Int)
     ·
      rw [if_pos c7] at H;have c7b0:=decide_eq_true c7;clear c7;obtain ⟨t463,A8,H⟩:=bs H;(try dsimp only at H)
      have H':=Aside0.mk H;clear H;have p462:0≤(x11_1:Int):=of_decide_eq_true (by first|(with_reducible assumption)|assumption);have q462:x11_1<(l2.length:Int):=of_decide_eq_true (by first|(with_reducible assumption)|assumption);obtain ⟨ad462,e462,hx462_0⟩:=Kd.at_int HR2.out x11_1 p462 q462;cases e462;replace hx462_0:=(HB.out.cell (World.block_lt_of_cell? w _ hx462_0)).trans hx462_0;replace p462:=eq_true p462;replace q462:=eq_true q462;have hcz9_0:=bC BK461;have hfz9_0:=Qf BK461.out 0;go_wp2_with (first|(refine gA (some 18) Tryz.func291 #[.agg #[.slice A0_0 l0_0.length c0_0], .int .i64 x1_1, .int .i64 (rd l2 x11_1)] ?_;(with_reducible refine (Qcu.calls k1 _ _ l0_0 x1_1 (rd l2 x11_1) t463 _ (uD HR0_0 HB) HC0_0.out A8.out).mono ?_);rintro e w10 ⟨rfl,hb⟩;refine ⟨_,rfl,?_⟩;replace BK461:=Aside0.mk (Qc (uK BK461) hb);replace HB:=Aside0.mk (Qb (uB HB) hb);(try clear hb)));go_roundg k1
      case measure=>have:=HK1.out;omega
      case rel=>exact ⟨(t463),(wrap64 (x11_1+1)),(by first|rfl|(simp;done)|(simp [*];done)),(by first|rfl|(simp;done)|(simp [*];done)),H',⟨by have:=HK1.out;omega⟩,⟨uK BK461⟩,⟨uB HB⟩⟩
     ·
      rw [if_neg c7] at H;exact absurd H (by simp)
    ·
     rw [if_neg c6] at H;exact absurd H (by simp)
   ·
    rw [if_neg c5] at H;have c5b0:=decide_eq_false c5;clear c5;obtain rfl:=Option.some.inj H;go_wp2
    go_ret
    exact ⟨by first|rfl|(simp [Qd,Qe] <;>rfl)|(simp [*,Qd,Qe] <;>rfl),uB HB⟩
def Qp.l0 : Nat → Int → List Int → List Int → Int → Int → List Int → Option (Int)
 |0,_,_,_,_,_,_=>none
 |k+1,x1,x7,x12,x13,x14,x465000=>if x14<x13 then (if 0≤x14 then (if x14<(x12.length:Int) then (if 0≤(rd x12 x14) then (if (rd x12 x14)<(x7.length:Int) then ((Qbo.f k (rd x7 (rd x12 x14))).bind fun t470=>((Qbu.f k x465000 x1 t470).bind fun t473=>(Qp.l0 k t473 x7 x12 x13 (wrap64 (x14+1)) x465000))) else (none)) else (none)) else (none)) else (none)) else (some x1)
def Qp.f (k : Nat) (l0_0 : List Int) (a1 : Int) (l2 : List Int) : Option (Int) := (Q9.f k l0_0).bind fun t465 => (Qp.l0 k a1 t465 l2 (l2.length : Int) 0 l0_0)
theorem Qp.mono_l : ∀ k, (∀ y0 y1 y2 y3 y4 y5, LeO (Qp.l0 k y0 y1 y2 y3 y4 y5) (Qp.l0 (k + 1) y0 y1 y2 y3 y4 y5))
 |0=>fun _ _ _ _ _ _ r h=>by simp [Qp.l0] at h
 |k+1=>by
  have ih0:=Qp.mono_l k
  ·
   intro y0 y1 y2 y3 y4 y5;unfold Qp.l0
   repeat' first
   |(with_reducible exact ih0 _ _ _ _ _ _)
   |(with_reducible exact Q9.mono _ _)
   |(with_reducible exact Qbu.mono _ _ _ _)
   |(with_reducible exact Qbo.mono _ _)
   |(with_reducible exact LeO.refl _)
   |(with_reducible exact LeO.none _)
   |(with_reducible refine LeO.ite ?_ ?_)
   |(with_reducible refine LeO.bind ?_ (fun _=> ?_))
   |exact ih0 _ _ _ _ _ _
   |exact Q9.mono _ _
   |exact Qbu.mono _ _ _ _
   |exact Qbo.mono _ _
   |exact LeO.none _
   |refine LeO.ite ?_ ?_
   |refine LeO.bind ?_ (fun _=> ?_)
theorem Qp.mono : ∀ a0 a1 a2 k, LeO (Qp.f k a0 a1 a2) (Qp.f (k + 1) a0 a1 a2) := by
 intro a0 a1 a2 k;have ih0:=Qp.mono_l k;unfold Qp.f
 repeat' (with_reducible first|apply ih0|apply Q9.mono|apply Qbu.mono|apply Qbo.mono|exact LeO.refl _|exact LeO.none _|refine LeO.ite ?_ ?_|refine LeO.bind ?_ (fun _=> ?_))
def Qp.T5 : Bool × List (List Nat × List Nat) := (true, [([], []), ([], []), ([], []), ([], []), ([2, 3], [2, 3]), ([4], [4]), ([5], [5]), ([0, 1, 6, 6], [0, 1, 6]), ([7, 7, 0, 1, 2, 3, 4, 5, 6, 7], [1, 7])])
def Qp.B5 : List Nat := [0, 0, 0, 0, 12, 28, 60, 127, 255]
theorem Qp.tab5 : rtab .any (Qfj Tryz.f149 5) = Qp.T5 := by kernel_rfl
theorem Qp.bits5 : Qea Qp.T5.2 Qp.B5 = true := by kernel_rfl
set_option maxHeartbeats 8000000 in
set_option maxRecDepth 100000 in
theorem Qp.calls (k : Nat) (A0_0 : Option Addr) (c0_0 : Nat) (l0_0 : List Int) (a1 : Int) (A2 : Option Addr) (c2 : Nat) (l2 : List Int) (r : Int) (w : World) (hr0_0 : Kd.C (Kd.int .i64) w A0_0 l0_0.length l0_0) (hc0_0 : l0_0.length ≤ c0_0) (hr2 : Kd.C (Kd.int .i64) w A2 l2.length l2) (hc2 : l2.length ≤ c2) (h : Qp.f k l0_0 a1 l2 = some r) :
 Calls Tryz.prog 149 #[.agg #[.slice A0_0 l0_0.length c0_0], .int .i64 a1, .slice A2 l2.length c2] w fun e w'=>e= .returned (.int .i64 r)∧Below w.heap.size w w':=by
 have hu26:=Tryz.underlying26;have HR0_0:=Aside0.mk hr0_0;have HC0_0:=Aside0.mk hc0_0;clear hr0_0 hc0_0;have HR2:=Aside0.mk hr2;have HC2:=Aside0.mk hc2;clear hr2 hc2;have HB:=Aside0.mk (Below.refl w.heap.size w);have H:((Q9.f k l0_0).bind fun t465=>(Qp.l0 k a1 t465 l2 (l2.length:Int) 0 l0_0))=some r:=h;clear h;obtain ⟨t465,A4,H⟩:=bs H;(try dsimp only at H)
 have H':=Aside0.mk H;clear H;go_enter Tryz.func149,Tryz.ntmps149;go_wp2_with (first|(refine bE (N:=3) (cs:= #[.slice A0_0 l0_0.length c0_0]) (t:=26) ?_;intro gb464 hg w5 hbox hb;have BK464:=Aside0.mk (hbox);have GW464:=Aside0.mk ((gV hg (uB HB)));have GE464:=GW464;replace HB:=Aside0.mk (Qb (uB HB) hb);clear hb hbox hg;have hcz6_0:=bC BK464;have hfz6_0:=Qf BK464.out 0)|(refine gA (some 11) Tryz.func157 #[.agg #[.slice A0_0 l0_0.length c0_0]] ?_;(with_reducible refine (Q9.calls k _ _ l0_0 t465 _ (uD HR0_0 HB) HC0_0.out A4.out).mono ?_);rintro e w7 ⟨v466,rfl,ho0,hb⟩;refine ⟨_,rfl,?_⟩;have HO467:=Aside0.mk (Kd.R_lower ho0 (Qj (uB HB)));replace BK464:=Aside0.mk (Qc (uK BK464) hb);replace HB:=Aside0.mk (Qb (uB HB) hb);(try clear hb ho0)))
 go_loopg [1,14] k (fun kq v1 v14 w'=> ∃ (x1_1:Int) (x14_1:Int),v1= .int .i64 x1_1∧v14= .int .i64 x14_1∧Aside0 (Qp.l0 kq x1_1 t465 l2 (l2.length:Int) x14_1 l0_0=some r)∧Aside0 (kq≤k)∧Aside0 (Kd.R (Kd.int .i64) 3 w' w.heap.size (fun _=>True) v466 t465)∧Aside0 (w'.heap[gb464]? =some (.cells #[(.slice A0_0 l0_0.length c0_0)] 26 (0,0)))∧Aside0 (Below w.heap.size w w'))
 case atStart=>exact ⟨(a1),(0),(by first|rfl|(simp;done)|(simp [*];done)),(by first|rfl|(simp;done)|(simp [*];done)),H',⟨Nat.le_refl _⟩,⟨uR HO467⟩,⟨uK BK464⟩,⟨uB HB⟩⟩
 case round=>
  clear H'
  try clear c1
  try clear c2
  try clear p2
  try clear hcz6_0
  try clear hfz6_0
  obtain ⟨x1_1,x14_1,rfl,rfl,HA,HK1,HO_7,BK464,HB⟩:=hrel;cases gk with
  |zero=>exact absurd HA.out (by simp [Qp.l0])
  |succ k1=>
   have H:=HA.out;clear HA;simp only [Qp.l0] at H
   by_cases c8:x14_1<(l2.length:Int)
   ·
    rw [if_pos c8] at H;have c8b0:=decide_eq_true c8;clear c8
    by_cases c9:0≤x14_1
    ·
     rw [if_pos c9] at H;have c9b0:=decide_eq_true c9;clear c9
     by_cases c10:x14_1<(l2.length:Int)
     ·
      rw [if_pos c10] at H;have c10b0:=decide_eq_true c10;clear c10
      by_cases c11:0≤(rd l2 x14_1)
      ·
       rw [if_pos c11] at H;have c11b0:=decide_eq_true c11;clear c11
       by_cases c12:(rd l2 x14_1)<(t465.length:Int)
       ·
        rw [if_pos c12] at H;have c12b0:=decide_eq_true c12;clear c12;obtain ⟨t470,A13,H⟩:=bs H;(try dsimp only at H)
        obtain ⟨t473,A14,H⟩:=bs H;(try dsimp only at H)
        have H':=Aside0.mk H;clear H;have p468:0≤(x14_1:Int):=of_decide_eq_true (by first|(with_reducible assumption)|assumption);have q468:x14_1<(l2.length:Int):=of_decide_eq_true (by first|(with_reducible assumption)|assumption);obtain ⟨ad468,e468,hx468_0⟩:=Kd.at_int HR2.out x14_1 p468 q468;cases e468;replace hx468_0:=(HB.out.cell (World.block_lt_of_cell? w _ hx468_0)).trans hx468_0;replace p468:=eq_true p468;replace q468:=eq_true q468
        try go_wp2
        replace HO_7:=Aside0.mk (Kd.R_drew HO_7.out);replace BK464:=Aside0.mk (Ql BK464.out);replace HB:=Aside0.mk (Qo HB.out);obtain ⟨Ao16,co16,eo16⟩:=Kd.R_slice HO_7.out
        (first|subst eo16|(injection eo16 with f1_ f2_ f3_;have f4_:=f1_.symm;have f5_:=f3_.symm;clear f1_ f2_ f3_;subst f4_;subst f5_))
        have p469:0≤((rd l2 x14_1):Int):=of_decide_eq_true (by first|(with_reducible assumption)|assumption);have q469:(rd l2 x14_1)<(t465.length:Int):=of_decide_eq_true (by first|(with_reducible assumption)|assumption);obtain ⟨ad469,e469,hx469_0⟩:=Kd.at_int (Kd.R_reads' HO_7.out).2.2 (rd l2 x14_1) p469 q469;cases e469;replace p469:=eq_true p469;replace q469:=eq_true q469;refine sU (n:=9) (S:=fun w'=>w'.cell? ⟨gb464,0,none⟩=some (.slice A0_0 l0_0.length c0_0)∧w'.cell? (ad469.add ((rd l2 x14_1)).toNat)=some (.int .i64 (rd t465 (rd l2 x14_1)))) (ds:= []) ⟨(Qcg BK464.out 0).trans rfl,hx469_0⟩ (fun hHeld=> ?_);refine Qeb Qp.tab5 Qp.bits5 (fun HT_ HW_=> ?_);generalize wr.drew=w15 at HO_7 BK464 HB hx469_0 hHeld ⊢;refine pU 1 19 ?_;refine pU 2 20 ?_;refine pU 3 21 ?_;refine pU 4 22 ?_;refine tW 0 18 hHeld ?_;refine tW 5 23 hHeld ?_;refine oU 6 (some 24) fun K hK=> ?_
        refine Qe0 Tryz.func277 (by kernel_rfl) rfl #[.int .i64 (rd t465 (rd l2 x14_1))] (by rfl) rfl rfl (by (try simp only [List.map_toArray,List.map_cons,List.map_nil]);first|done|rfl|(simp only [List.length_drop,List.length_take];rfl)) ?_
        with_reducible refine (Qbo.calls k1 (rd t465 (rd l2 x14_1)) t470 _ A13.out).mono ?_
        rintro e w17 ⟨v471,rfl,ho0,hb⟩;have HS1_:=(hb.cell (World.block_lt_of_cell? _ _ (hHeld.2))).trans (hHeld.2);refine ⟨_,rfl,?_⟩;have HO472:=Aside0.mk (Kd.R_lower (Kd.R_new' ho0 (Kd.R_lt (uR HO_7))) (Qj (uB HB)));replace HO_7:=Aside0.mk (Kd.R_elder' (uR HO_7) (Kd.R_base ho0) hb);replace BK464:=Aside0.mk (Qc (uK BK464) hb);replace HB:=Aside0.mk (Qb (uB HB) hb)
        skip
        skip
        skip
        skip
        skip
        obtain ⟨Ao18,co18,eo18⟩:=Kd.R_slice HO472.out
        (first|subst eo18|(injection eo18 with f1_ f2_ f3_;have f4_:=f1_.symm;have f5_:=f3_.symm;clear f1_ f2_ f3_;subst f4_;subst f5_))
        refine hK.out _ _ ⟨(Qcg BK464.out 0).trans rfl,HS1_⟩ (fun hHeld=> ?_);clear hK K;refine nU 24 ?_;refine oU 7 (some 25) fun K hK=> ?_
        refine Qe0 Tryz.func276 (by kernel_rfl) rfl #[.agg #[.slice A0_0 l0_0.length c0_0], .int .i64 x1_1, .slice Ao18 t470.length co18] (by rfl) rfl rfl (by (try simp only [List.map_toArray,List.map_cons,List.map_nil]);first|done|rfl|(simp only [List.length_drop,List.length_take];rfl)) ?_
        with_reducible refine (Qbu.calls k1 _ _ l0_0 x1_1 _ _ t470 t473 _ ?side1 ?side2 ?side3 ?side4 A14.out).mono ?_
        (case side1=>repeat (first|exact (Kd.C_below HR0_0.out HB.out)|(with_reducible refine Kd.C_alloc ?_ _)|(with_reducible refine Kd.C_drewN ?_ _)|(with_reducible refine Kd.C_drew ?_)))
        (case side2=>exact HC0_0.out)
        (case side3=>repeat (first|exact (Kd.R_reads' HO472.out).2.2|(with_reducible refine Kd.C_alloc ?_ _)|(with_reducible refine Kd.C_drewN ?_ _)|(with_reducible refine Kd.C_drew ?_)))
        (case side4=>exact (Kd.R_reads' HO472.out).2.1)
        rintro e w19 ⟨rfl,hb⟩;have HS1_:=(hb.cell (World.block_lt_of_cell? _ _ (hHeld.2))).trans (hHeld.2);refine ⟨_,rfl,?_⟩;replace HO_7:=Aside0.mk (Kd.R_below (uR HO_7) hb);replace HO472:=Aside0.mk (Kd.R_below (uR HO472) hb);replace BK464:=Aside0.mk (Qc (uK BK464) hb);replace HB:=Aside0.mk (Qb (uB HB) hb)
        skip
        skip
        skip
        skip
        refine hK.out _ _ ⟨(Qcg BK464.out 0).trans rfl,HS1_⟩ (fun hHeld=> ?_);clear hK K;refine nU 25 ?_;refine pU 8 1 ?_;refine dU ?_
        try go_wp2
        go_roundg k1
        case measure=>have:=HK1.out;omega
        case rel=>exact ⟨(t473),(wrap64 (x14_1+1)),(by first|rfl|(simp;done)|(simp [*];done)),(by first|rfl|(simp;done)|(simp [*];done)),H',⟨by have:=HK1.out;omega⟩,⟨by (with_reducible repeat (first|apply Kd.R_alloc|apply Kd.R_drewN|apply Kd.R_drew));exact Kd.R_mono HO_7.out (fun _ hk=>trivial)⟩,⟨uK BK464⟩,⟨uB HB⟩⟩
       ·
        rw [if_neg c12] at H;exact absurd H (by simp)
      ·
       rw [if_neg c11] at H;exact absurd H (by simp)
     ·
      rw [if_neg c10] at H;exact absurd H (by simp)
    ·
     rw [if_neg c9] at H;exact absurd H (by simp)
   ·
    rw [if_neg c8] at H;have c8b0:=decide_eq_false c8;clear c8;obtain rfl:=Option.some.inj H;go_wp2
    go_ret
    exact ⟨by first|rfl|(simp [Qd,Qe] <;>rfl)|(simp [*,Qd,Qe] <;>rfl),uB HB⟩
end Go.Proofs.YtkgngggppcmpfaaGreat.L
end
section
namespace Go.Proofs.YtkgngggppcmpfaaGreat.L
open Go.RowKit Go.Proofs.YtkgngggppcmpfaaGreatW.PrintWords Go.Proofs.YtkgngggppcmpfaaGreatW.PrintLast Go.Proofs.YtkgngggppcmpfaaGreatW.PrintMore
attribute [local go_sem] Q2 Q4 Qbb Qbc Qt Qu Q3 Q5
set_option linter.unusedVariables false
set_option linter.unusedSimpArgs false
open Go.Proofs.YtkgngggppcmpfaaGreat.X in
set_option maxHeartbeats 400000 in
set_option maxRecDepth 100000 in
theorem Qk7.calls (A0 : Option Addr) (c0 : Nat) (l0 : List Int) (g : Nat) (lb : Array Value) (p : Int → Bool) (w : World) (eg : ∀ args w, (callFunc g args).run Tryz.prog w = .ok (.enter g args) w)
 (hr0:Kd.C (Kd.int .i64) w A0 l0.length l0) (hl:l0.length≤9223372036854775806) (hp: ∀ x,x ∈ l0→Fv Tryz.prog g lb #[.int .i64 x] (.bool (p x)) w):
 Calls Tryz.prog 287 #[.slice A0 l0.length c0, .func (.func g) #[] lb] w fun e w'=>e= .returned (.int .i64 (idxOf p l0))∧Below w.heap.size w w':=by
 have HR0:=Aside0.mk hr0;have HP:=Aside0.mk hp;clear hr0 hp;go_enter Tryz.func287,Tryz.ntmps287;go_wp2
 go_loopw [8] (fun v8 wr=> ∃ k:Nat,k≤l0.length∧v8= .int .i64 k∧Aside0 (idxOf p l0=Qf1 p (l0.drop k) k)∧Aside0 (Below w.heap.size w wr)) (fun v8 _=>l0.length - (intOf v8).toNat)
 case atStart=>exact ⟨0,Nat.zero_le _,rfl,⟨rfl⟩,⟨Below.refl _ _⟩⟩
 case round=>
  obtain ⟨k,hk,rfl,HI,HB⟩:=hrel
  by_cases hlt:k<l0.length
  ·
   have hdrop:l0.drop k=l0[k] ::l0.drop (k+1):=(List.drop_eq_getElem_cons hlt)
   have hrd:rd l0 (k:Int)=l0[k] :=by simp [rd,List.getD_eq_getElem?_getD,hlt]
   have hmem:l0[k] ∈ l0:=List.getElem_mem hlt;have hfv:=HP.out _ hmem;rw [←hrd] at hfv;have hI3:=Aside0.mk (show idxOf p l0=if p (rd l0 (k:Int)) then (k:Int) else Qf1 p (l0.drop (k+1)) (k+1) by rw [hrd,HI.out,hdrop,Qf1]);have HF:=Aside0.mk hfv;clear hfv hdrop hrd HI hmem;have p1:0≤((k:Nat):Int):=by omega
   have q1:((k:Nat):Int)<(l0.length:Int):=by omega
   obtain ⟨ad,e1,hx⟩:=Kd.at_int (Kd.C_below HR0.out HB.out) k p1 q1;rw [Int.toNat_natCast] at hx;cases e1
   by_cases hp:p (rd l0 (k:Int))=true
   all_goals
    have hP:=Aside0.mk hp;go_wp2_with (go_at_fn g;(with_reducible refine (Fv.calls HF.out HB.out).mono ?_);rintro e w2 ⟨rfl,hb⟩)
    first|go_ret|go_roundw
   ·
    exact ⟨by rw [hI3.out,if_pos hP.out];rfl,Qdc HB.out hb⟩
   case rel=>exact ⟨k+1,by omega,by go_num,⟨by rw [hI3.out,if_neg hP.out]⟩,⟨Qdc HB.out hb⟩⟩
   case measure=>simp [intOf];omega
  ·
   go_wp2
   go_ret
   exact ⟨by rw [HI.out,List.drop_of_length_le (by omega)];rfl,HB.out⟩
open Go.Proofs.YtkgngggppcmpfaaGreat.X in
set_option maxHeartbeats 400000 in
set_option maxRecDepth 100000 in
theorem Qgl.calls (A0 : Option Addr) (c0 : Nat) (l0 : List Int) (g : Nat) (lb : Array Value) (p : Int → Bool) (w : World) (eg : ∀ args w, (callFunc g args).run Tryz.prog w = .ok (.enter g args) w)
 (hr0:Kd.C (Kd.int .i64) w A0 l0.length l0) (hl:l0.length≤9223372036854775806) (hp: ∀ x,x ∈ l0→Fv Tryz.prog g lb #[.int .i64 x] (.bool (p x)) w):
 Calls Tryz.prog 166 #[.slice A0 l0.length c0, .func (.func g) #[] lb] w fun e w'=>e= .returned (.bool (l0.any p))∧Below w.heap.size w w':=by
 have EG:=Aside0.mk eg;have HR0:=Aside0.mk hr0;have HP:=Aside0.mk hp;clear hr0 hp eg;go_enter Tryz.func166,Tryz.ntmps166;go_wp2_with (go_at_call 287;(with_reducible refine (Qk7.calls _ _ l0 g lb p _ EG.out HR0.out hl HP.out).mono ?_);rintro e w2 ⟨rfl,hb⟩)
 go_ret
 refine ⟨?_,hb⟩;have:=Qko p l0 0;unfold idxOf
 by_cases h:l0.any p=true
 ·
  rw [h] at this ⊢;simp [this.mpr rfl]
 ·
  have h2: ¬ (0≤Qf1 p l0 0):=fun z=>h (this.mp z)
  simp [Bool.eq_false_iff.mpr h,h2]
def Qbz.p (rk : List Int) (e : Int) : Bool := !(decide (0 ≤ e) && decide (e ≤ wrap64 ((rk.length : Int) - 1)))
def Qbz.f (k : Nat) (l0_0 : List Int) (a1 : Int) (l2 : List Int) : Option (Int × Bool) := (Qbx.f k l0_0 a1).bind fun t => if t = true then (if (l2.length : Int) > 40 then some (0, false) else (Q9.f k l0_0).bind fun rk => if l2.any (Qbz.p rk) = true then some (0, false) else (Qp.f k l0_0 a1 l2).bind fun x => some (x, true)) else some (0, false)
theorem Qbz.mono : ∀ a0 a1 a2 k, LeO (Qbz.f k a0 a1 a2) (Qbz.f (k + 1) a0 a1 a2) := by
 intro a0 a1 a2 k;unfold Qbz.f;exact LeO.bind (Qbx.mono _ _ _) (fun t=>LeO.ite (LeO.ite (LeO.refl _) (LeO.bind (Q9.mono _ _) (fun rk=>LeO.ite (LeO.refl _) (LeO.bind (Qp.mono _ _ _ _) (fun x=>LeO.refl _))))) (LeO.refl _))
open Go.Proofs.YtkgngggppcmpfaaGreat.X in
set_option maxHeartbeats 1000000 in
set_option maxRecDepth 100000 in
theorem Qbz.lit (k : Nat) (A0 : Option Addr) (c0 : Nat) (l0 : List Int) (rk : List Int) (n : Int) (B : Nat) (w : World) (hr0 : Kd.C (Kd.int .i64) w A0 l0.length l0) (hc0 : l0.length ≤ c0) (hk : Q9.f k l0 = some rk) (hB : B < w.heap.size) (hc : w.cell? ⟨B, 0, none⟩ = some (.slice A0 l0.length c0)) :
 Fv Tryz.prog 167 #[.pointer (some ⟨B,0,none⟩)] #[.int .i64 n] (.bool (Qbz.p rk n)) w:=by
 intro W hb;have hc':W.cell? ⟨B,0,none⟩=some (.slice A0 l0.length c0):=(hb.cell (p:=⟨B,0,none⟩) hB).trans hc;obtain ⟨b,HW,hp⟩: ∃ b,Qda.f n 0 (wrap64 ((rk.length:Int) - 1))=some b∧Qbz.p rk n= !b:=⟨decide (0≤n) && decide (n≤wrap64 ((rk.length:Int) - 1)),by unfold Qda.f;by_cases h:0≤n<;>simp [h],rfl⟩
 rw [hp];have HA:=Aside0.mk HW;have HR:=Aside0.mk (Kd.C_below hr0 hb);have HC:=Aside0.mk hc0;have HK:=Aside0.mk hk;clear HW hp hr0 hb hc hc0 hk;have hu:=Tryz.underlying26;go_enter Tryz.func167,Tryz.ntmps167;go_wp2_with fail;refine (Q9.calls k _ _ l0 rk _ HR.out HC.out HK.out).mono ?_;rintro e w1 ⟨v0,rfl,hR,hb⟩;obtain ⟨Ao,co,rfl,hl,hC⟩:=Kd.R_reads hR;have B1:=Aside0.mk hb;clear hR hl hC hb;go_wp2_with fail;refine (Qda.calls n 0 (wrap64 ((rk.length:Int) - 1)) b _ HA.out).mono ?_;rintro e w2 ⟨rfl,⟨nd,rfl⟩⟩;go_wp2
 go_ret
 exact ⟨rfl,Qi B1.out _⟩
open Go.Proofs.YtkgngggppcmpfaaGreat.X in
set_option maxHeartbeats 1600000 in
set_option maxRecDepth 100000 in
theorem Qbz.calls (k : Nat) (A0_0 : Option Addr) (c0_0 : Nat) (l0_0 : List Int) (a1 : Int) (A2 : Option Addr) (c2 : Nat) (l2 : List Int) (r1 : Int) (r2 : Bool) (w : World) (hr0_0 : Kd.C (Kd.int .i64) w A0_0 l0_0.length l0_0) (hc0_0 : l0_0.length ≤ c0_0) (hr2 : Kd.C (Kd.int .i64) w A2 l2.length l2) (hc2 : l2.length ≤ c2) (h : Qbz.f k l0_0 a1 l2 = some (r1, r2)) :
 Calls Tryz.prog 23 #[.agg #[.slice A0_0 l0_0.length c0_0], .int .i64 a1, .slice A2 l2.length c2] w fun e w'=>e= .returned (.tuple #[.int .i64 r1, .bool r2])∧Below w.heap.size w w':=by
 have HR:=Aside0.mk hr0_0;have HC:=Aside0.mk hc0_0;have HR2:=Aside0.mk hr2;have HC2:=Aside0.mk hc2;clear hr0_0 hc0_0 hr2 hc2;unfold Qbz.f at h;obtain ⟨t,ht,h⟩:=Option.bind_eq_some_iff.mp h;have HT:=Aside0.mk ht;clear ht;have hu:=Tryz.underlying26;cases t with
 |false=>
  have h':some ((0:Int),false)=some (r1,r2):=h;injection h' with h'
  injection h' with h1 h2
  subst h1 h2;clear h;go_enter Tryz.func23,Tryz.ntmps23;go_wp2_with (go_at_call 148;(with_reducible refine (Qbx.calls k _ _ l0_0 a1 false _ (Kd.C_below HR.out (Qk (Below.refl _ _) _)) HC.out HT.out).mono ?_);rintro e w1 ⟨rfl,hb⟩)
  go_ret2
  exact ⟨rfl,Qdc (Qk (Below.refl _ _) _) hb⟩
 |true=>
  rw [if_pos rfl] at h
  by_cases hm:(l2.length:Int)>40
  ·
   rw [if_pos hm] at h;injection h with h
   injection h with h1 h2
   subst h1 h2;have hm1:decide ((l2.length:Int)>40)=true:=decide_eq_true hm;have hm2:decide ((40:Int)<(l2.length:Int))=true:=decide_eq_true hm;clear hm;go_enter Tryz.func23,Tryz.ntmps23;go_wp2_with (go_at_call 148;(with_reducible refine (Qbx.calls k _ _ l0_0 a1 true _ (Kd.C_below HR.out (Qk (Below.refl _ _) _)) HC.out HT.out).mono ?_);rintro e w1 ⟨rfl,hb⟩)
   go_ret2
   exact ⟨rfl,Qdc (Qk (Below.refl _ _) _) hb⟩
  ·
   rw [if_neg hm] at h;obtain ⟨rk,hrk,h⟩:=Option.bind_eq_some_iff.mp h;have HK:=Aside0.mk hrk;have HL:=Aside0.mk (show l2.length≤9223372036854775806 by omega);clear hrk;have hm1:decide ((l2.length:Int)>40)=false:=decide_eq_false hm;have hm2:decide ((40:Int)<(l2.length:Int))=false:=decide_eq_false hm;clear hm;obtain ⟨an,han⟩: ∃ an,an=l2.any (Qbz.p rk):=⟨_,rfl⟩
   have AN:=Aside0.mk han;rw [←han] at h;clear han;cases an with
   |true=>
    rw [if_pos rfl] at h;injection h with h
    injection h with h1 h2
    subst h1 h2;go_enter Tryz.func23,Tryz.ntmps23;go_wp2_with fail;refine (Qbx.calls k _ _ l0_0 a1 true _ (Kd.C_below HR.out (Qk (Below.refl _ _) _)) HC.out HT.out).mono ?_;rintro e w1 ⟨rfl,hb⟩;have b1:=Qdc (Qk (Below.refl w.heap.size w) (.cells #[.slice A0_0 l0_0.length c0_0] 26)) hb;have z1:=Aside0.mk (show w.heap.size<w1.heap.size by have:=hb.size;simp at this;omega);have c1:=Aside0.mk (show w1.cell? ⟨w.heap.size,0,none⟩=some (.slice A0_0 l0_0.length c0_0) from (hb.cell (p:=⟨w.heap.size,0,none⟩) (by simp)).trans (by simp));have B1:=Aside0.mk b1;clear hb b1;go_wp2_with fail;refine (Qgl.calls A2 c2 l2 167 #[.pointer (some ⟨w.heap.size,0,none⟩)] (Qbz.p rk) _ (Qga Tryz.func167 (by kernel_rfl) rfl) (Kd.C_below HR2.out B1.out) HL.out (fun x _=>Qbz.lit k A0_0 c0_0 l0_0 rk x _ _ (Kd.C_below HR.out B1.out) HC.out HK.out z1.out c1.out)).mono ?_;rintro e w2 ⟨rfl,hb⟩;rw [←AN.out];have B2:=Aside0.mk (Qdc B1.out hb);clear hb;go_wp2
    go_ret2
    exact ⟨rfl,B2.out⟩
   |false=>
    rw [if_neg (by simp)] at h;obtain ⟨x,hx,h⟩:=Option.bind_eq_some_iff.mp h;injection h with h
    injection h with h1 h2
    subst h1 h2;have HX:=Aside0.mk hx;clear hx;go_enter Tryz.func23,Tryz.ntmps23;go_wp2_with fail;refine (Qbx.calls k _ _ l0_0 a1 true _ (Kd.C_below HR.out (Qk (Below.refl _ _) _)) HC.out HT.out).mono ?_;rintro e w1 ⟨rfl,hb⟩;have b1:=Qdc (Qk (Below.refl w.heap.size w) (.cells #[.slice A0_0 l0_0.length c0_0] 26)) hb;have z1:=Aside0.mk (show w.heap.size<w1.heap.size by have:=hb.size;simp at this;omega);have cc1:w1.cell? ⟨w.heap.size,0,none⟩=some (.slice A0_0 l0_0.length c0_0):=(hb.cell (p:=⟨w.heap.size,0,none⟩) (by simp)).trans (by simp);have c1:=Aside0.mk cc1;have B1:=Aside0.mk b1;clear hb b1 cc1;go_wp2_with fail;refine (Qgl.calls A2 c2 l2 167 #[.pointer (some ⟨w.heap.size,0,none⟩)] (Qbz.p rk) _ (Qga Tryz.func167 (by kernel_rfl) rfl) (Kd.C_below HR2.out B1.out) HL.out (fun x _=>Qbz.lit k A0_0 c0_0 l0_0 rk x _ _ (Kd.C_below HR.out B1.out) HC.out HK.out z1.out c1.out)).mono ?_;rintro e w2 ⟨rfl,hb⟩;rw [←AN.out];have B2:=Aside0.mk (Qdc B1.out hb);have cc2:w2.cell? ⟨w.heap.size,0,none⟩=some (.slice A0_0 l0_0.length c0_0):=(hb.cell (p:=⟨w.heap.size,0,none⟩) z1.out).trans c1.out;clear hb;go_wp2_with fail;refine (Qp.calls k _ _ l0_0 a1 _ _ l2 x _ (Kd.C_below HR.out B2.out) HC.out (Kd.C_below HR2.out B2.out) HC2.out HX.out).mono ?_;rintro e w3 ⟨rfl,hb⟩;have B3:=Aside0.mk (Qdc B2.out hb);clear hb;go_wp2
    go_ret2
    exact ⟨rfl,B3.out⟩
class Fn1 where
 p:Int→Option Bool
def Qgk.f [Fn1] (a0 : Int) : Option Bool := Fn1.p a0
end Go.Proofs.YtkgngggppcmpfaaGreat.L
end
section
namespace Go.Proofs.YtkgngggppcmpfaaGreat.L
open Go.RowKit Go.Proofs.YtkgngggppcmpfaaGreatW.PrintWords Go.Proofs.YtkgngggppcmpfaaGreatW.PrintLast Go.Proofs.YtkgngggppcmpfaaGreatW.PrintMore Go.Proofs.YtkgngggppcmpfaaGreat.X
attribute [local go_sem] Q2 Q4 Qbb Qbc Qt Qu Q3 Q5
set_option linter.unusedVariables false
variable [Fn1]
set_option linter.unusedSimpArgs false
def Qbt.l0 : Nat → List Int → Int → Int → Option (List Int)
 |0,_,_,_=>none
 |k+1,x5,x10,x11=>if x11<x10 then ((Qgk.f x11).bind fun t634=>(if t634=true then (if x5.length<17592186044416 then (Qbt.l0 k (x5++ [x11]) x10 (wrap64 (x11+1))) else (none)) else (Qbt.l0 k x5 x10 (wrap64 (x11+1))))) else (some x5)
def Qbt.f (k : Nat) (l0_0 : List Int) (a1 : Int) : Option (List Int) := (Qdo.f l0_0).bind fun t633 => (Qbt.l0 k (([] : List Int)) (wrap64 (t633 + 1)) 0)
theorem Qbt.mono_l : ∀ k, (∀ y0 y1 y2, LeO (Qbt.l0 k y0 y1 y2) (Qbt.l0 (k + 1) y0 y1 y2))
 |0=>fun _ _ _ r h=>by simp [Qbt.l0] at h
 |k+1=>by
  have ih0:=Qbt.mono_l k
  ·
   intro y0 y1 y2;unfold Qbt.l0
   repeat' first
   |(with_reducible exact ih0 _ _ _)
   |(with_reducible exact LeO.refl _)
   |(with_reducible exact LeO.none _)
   |(with_reducible refine LeO.ite ?_ ?_)
   |(with_reducible refine LeO.bind ?_ (fun _=> ?_))
   |exact ih0 _ _ _
   |exact LeO.none _
   |refine LeO.ite ?_ ?_
   |refine LeO.bind ?_ (fun _=> ?_)
theorem Qbt.mono : ∀ a0 a1 k, LeO (Qbt.f k a0 a1) (Qbt.f (k + 1) a0 a1) := by
 intro a0 a1 k;have ih0:=Qbt.mono_l k;unfold Qbt.f
 repeat' first
  |(with_reducible exact ih0 _ _ _)
  |(with_reducible exact LeO.refl _)
  |(with_reducible exact LeO.none _)
  |(with_reducible refine LeO.ite ?_ ?_)
  |(with_reducible refine LeO.bind ?_ (fun _=> ?_))
  |exact ih0 _ _ _
  |exact LeO.none _
  |refine LeO.ite ?_ ?_
  |refine LeO.bind ?_ (fun _=> ?_)
set_option maxHeartbeats 8000000 in
set_option maxRecDepth 100000 in
open Go.Proofs.YtkgngggppcmpfaaGreat.X in
theorem Qbt.calls (gF : Nat) (lbF : Array Value) (eg : ∀ args w, (callFunc gF args).run Tryz.prog w = .ok (.enter gF args) w) (k : Nat) (A0_0 : Option Addr) (c0_0 : Nat) (l0_0 : List Int) (a1 : Int) (r : List Int) (w : World) (hr0_0 : Kd.C (Kd.int .i64) w A0_0 l0_0.length l0_0) (hc0_0 : l0_0.length ≤ c0_0) (hpF : ∀ x0_ b, Qgk.f x0_ = some b → Fv Tryz.prog gF lbF #[.int .i64 x0_] (.bool b) w) (h : Qbt.f k l0_0 a1 = some r) :
 Calls Tryz.prog 288 #[.agg #[.slice A0_0 l0_0.length c0_0], .func (.func gF) #[] lbF] w fun e w'=> ∃ v0_:Value,e= .returned (v0_)∧Kd.R (Kd.int .i64) 3 w' w.heap.size (fun _=>True) v0_ r∧Below w.heap.size w w':=by
 have HP:=Aside0.mk hpF;clear hpF;have hu26:=Tryz.underlying26;have HR0_0:=Aside0.mk hr0_0;have HC0_0:=Aside0.mk hc0_0;clear hr0_0 hc0_0;have HB:=Aside0.mk (Below.refl w.heap.size w);have H:((Qdo.f l0_0).bind fun t633=>(Qbt.l0 k (([] :List Int)) (wrap64 (t633+1)) 0))=some r:=h;clear h;obtain ⟨y630,hy630⟩: ∃ y_:List Int,y_=(([] :List Int)):=⟨_,rfl⟩
 replace H:((Qdo.f l0_0).bind fun t633=>(Qbt.l0 k y630 (wrap64 (t633+1)) 0))=some r:=by first|(rw [hy630];with_reducible exact H)|(have H2_:=(Option.bind_some _ _).symm.trans H;rw [hy630];with_reducible exact H2_)|(have H2_:=(Option.bind_some _ _).symm.trans H;with_reducible exact H2_)|with_reducible exact H|(rw [hy630];exact H)|exact H
 have Ny630:=Aside0.mk hy630;clear hy630;obtain ⟨t633,A3,H⟩:=bs H;(try dsimp only at H)
 have H':=Aside0.mk H;clear H;go_enter Tryz.func288,Tryz.ntmps288;go_wp2_with (first|(refine bE (N:=2) (cs:= #[.slice A0_0 l0_0.length c0_0]) (t:=26) ?_;intro gb629 hg w4 hbox hb;have BK629:=Aside0.mk (hbox);have GW629:=Aside0.mk ((gV hg (uB HB)));have GE629:=GW629;replace HB:=Aside0.mk (Qb (uB HB) hb);clear hb hbox hg)|((with_reducible refine Qb9 (N:=7) rfl ?_);refine Kd.R_lit (Kd.int .i64) _ 3 ?hg (N:=7) ?hd (xs:=([] :List Int)) (inner:= []) (ok:=fun _=>True) (okp:=fun _=>True) ?hr ?hp (fun _ hk=>hk) trivial (Below.refl _ _) (Nat.le_refl _) (by simp) ?_;(case hd=>rfl);(case hg=>rfl);(case hr=>first|(go_simp;done)|(go_simp;rfl));(case hp=>exact (Reps.none _ _));intro v631 w5 ho6 hb hg_ hnew_;clear hg_ hnew_;(first|rw [←Ny630.out] at ho6|(simp only [Int.reduceToNat] at ho6;rw [←Ny630.out] at ho6));have HO632:=Aside0.mk (Kd.R_lower ho6 (Qj (uB HB)));replace BK629:=Aside0.mk (Qc (uK BK629) hb);replace HB:=Aside0.mk (Qb (uB HB) hb);clear hb ho6;have hcz7_0:=bC BK629;have hfz7_0:=Qf BK629.out 0)|(refine gA (some 9) Tryz.func290 #[.agg #[.slice A0_0 l0_0.length c0_0]] ?_;(with_reducible refine (Qdo.calls _ _ l0_0 t633 _ (uD HR0_0 HB) HC0_0.out A3.out).mono ?_);rintro e w8 ⟨rfl,hb⟩;refine ⟨_,rfl,?_⟩;replace HO632:=Aside0.mk (Kd.R_below (uR HO632) hb);replace BK629:=Aside0.mk (Qc (uK BK629) hb);replace HB:=Aside0.mk (Qb (uB HB) hb);(try clear hb)))
 go_loopg [5,11] k (fun kq v5 v11 w'=> ∃ (x5_1:List Int) (x11_1:Int),v11= .int .i64 x11_1∧Aside0 (Qbt.l0 kq x5_1 (wrap64 (t633+1)) x11_1=some r)∧Aside0 (kq≤k)∧Aside0 (Kd.R (Kd.int .i64) 3 w' w.heap.size (fun _=>True) v5 x5_1)∧Aside0 (w'.heap[gb629]? =some (.cells #[(.slice A0_0 l0_0.length c0_0)] 26 (0,0)))∧Aside0 (Below w.heap.size w w'))
 case atStart=>exact ⟨(y630),(0),(by first|rfl|(simp;done)|(simp [*];done)),H',⟨Nat.le_refl _⟩,⟨uR HO632⟩,⟨uK BK629⟩,⟨uB HB⟩⟩
 case round=>
  clear H'
  try clear c2
  try clear p2
  try clear p6
  try clear hcz7_0
  try clear hfz7_0
  obtain ⟨x5_1,x11_1,rfl,HA,HK1,HO_5,BK629,HB⟩:=hrel;cases gk with
  |zero=>exact absurd HA.out (by simp [Qbt.l0])
  |succ k1=>
   have H:=HA.out;clear HA;simp only [Qbt.l0] at H
   by_cases c9:x11_1<(wrap64 (t633+1))
   ·
    rw [if_pos c9] at H;have c9b0:=decide_eq_true c9;clear c9;obtain ⟨t634,A10,H⟩:=bs H;(try dsimp only at H)
    by_cases c11:t634=true
    ·
     subst c11;rw [if_pos rfl] at H
     by_cases c12:x5_1.length<17592186044416
     ·
      rw [if_pos c12] at H;have LMc12:=Aside0.mk c12;clear c12;obtain ⟨y635,hy635⟩: ∃ y_:List Int,y_=(x5_1++ [x11_1]):=⟨_,rfl⟩
      replace H:(Qbt.l0 k1 y635 (wrap64 (t633+1)) (wrap64 (x11_1+1)))=some r:=by first|(rw [hy635];with_reducible exact H)|(have H2_:=(Option.bind_some _ _).symm.trans H;rw [hy635];with_reducible exact H2_)|(have H2_:=(Option.bind_some _ _).symm.trans H;with_reducible exact H2_)|with_reducible exact H|(rw [hy635];exact H)|exact H
      have Ny635:=Aside0.mk hy635;clear hy635;have H':=Aside0.mk H;clear H;go_wp2_with (first|(go_at_fn gF;(with_reducible refine (Fv.calls (HP.out _ _ A10.out) (uB HB)).mono ?_);rintro e w13 ⟨rfl,hb⟩;replace HO_5:=Aside0.mk (Kd.R_below (uR HO_5) hb);replace BK629:=Aside0.mk (Qc (uK BK629) hb);replace HB:=Aside0.mk (Qb (uB HB) hb);(try clear hb))|((with_reducible refine Qcj (b:= .append) (xs:= #[.tmp 17, .tmp 19]) rfl ?_);at_builtin;refine Kd.R_append (Kd.int .i64) (w0:=w) w.heap.size rfl (.tmp 17) (.tmp 19) 24 3 (.int .i64 0) 8 rfl Tryz.underlying24 Qeo rfl (by decide) (by omega) u5 x5_1 x11_1 [.int .i64 x11_1] (fun _=>True) (fun _=>False) rfl rfl ?aP (fun _ hk=>hk.elim) ?aF ?aO ?aB ?aS ?aL ?_;(case aP=>exact rfl);(case aB=>exact (uB HB));(case aF=>exact (fun _ _=>trivial));(case aO=>exact (uR HO_5));(case aS=>exact (Qj (uB HB)));(case aL=>have:=LMc12.out;omega);intro v636 w14 ho hb hg hat;rw [←Ny635.out] at ho;replace BK629:=Aside0.mk (Qdi (uK BK629) hg (Kd.R_ne HO_5.out BK629.out (by decide)));replace HB:=Aside0.mk (hb);have HO637:=Aside0.mk (ho);clear HO_5;clear ho hb hg hat));go_roundg k1
      case measure=>have:=HK1.out;omega
      case rel=>exact ⟨(y635),(wrap64 (x11_1+1)),(by first|rfl|(simp;done)|(simp [*];done)),H',⟨by have:=HK1.out;omega⟩,⟨uR HO637⟩,⟨uK BK629⟩,⟨uB HB⟩⟩
     ·
      rw [if_neg c12] at H;exact absurd H (by simp)
    ·
     replace c11:=Bool.eq_false_iff.mpr c11;subst c11;rw [if_neg (show ¬ (false=true) by decide)] at H;have H':=Aside0.mk H;clear H;go_wp2_with (first|(go_at_fn gF;(with_reducible refine (Fv.calls (HP.out _ _ A10.out) (uB HB)).mono ?_);rintro e w15 ⟨rfl,hb⟩;replace HO_5:=Aside0.mk (Kd.R_below (uR HO_5) hb);replace BK629:=Aside0.mk (Qc (uK BK629) hb);replace HB:=Aside0.mk (Qb (uB HB) hb);(try clear hb)));go_roundg k1
     case measure=>have:=HK1.out;omega
     case rel=>exact ⟨(x5_1),(wrap64 (x11_1+1)),(by first|rfl|(simp;done)|(simp [*];done)),H',⟨by have:=HK1.out;omega⟩,⟨uR HO_5⟩,⟨uK BK629⟩,⟨uB HB⟩⟩
   ·
    rw [if_neg c9] at H;have c9b0:=decide_eq_false c9;clear c9;obtain rfl:=Option.some.inj H;go_wp2
    go_ret
    exact ⟨_,by first|rfl|(simp [Qd,Qe] <;>rfl)|(simp [*,Qd,Qe] <;>rfl),uR HO_5,uB HB⟩
end Go.Proofs.YtkgngggppcmpfaaGreat.L
end
section
namespace Go.Proofs.YtkgngggppcmpfaaGreat.L
open Go.RowKit Go.Proofs.YtkgngggppcmpfaaGreatW.PrintWords Go.Proofs.YtkgngggppcmpfaaGreatW.PrintLast Go.Proofs.YtkgngggppcmpfaaGreatW.PrintMore
attribute [local go_sem] Q2 Q4 Qbb Qbc Qt Qu Q3 Q5
set_option linter.unusedVariables false
set_option linter.unusedSimpArgs false
@[reducible] def Qb0.inst (k : Nat) (l0 : List Int) : Fn1 := ⟨fun s => (Qbi.f k l0 s).map (· == s)⟩
def Qb0.f (k : Nat) (l0_0 : List Int) : Option (List Int) := @Qbt.f (Qb0.inst k l0_0) k l0_0 0
theorem Qb0.mono_i (i i' : Fn1) (hi : ∀ s, LeO (i.p s) (i'.p s)) : ∀ k y0 y1 y2, LeO (@Qbt.l0 i k y0 y1 y2) (@Qbt.l0 i' k y0 y1 y2)
 |0,_,_,_=>fun r h=>by cases h
 |k+1,y0,y1,y2=>by
  rw [@Qbt.l0.eq_2 i,@Qbt.l0.eq_2 i'];exact LeO.ite (LeO.bind (hi _) (fun t=>LeO.ite (LeO.ite (Qb0.mono_i i i' hi k _ _ _) (LeO.refl _)) (Qb0.mono_i i i' hi k _ _ _))) (LeO.refl _)
theorem Qb0.mono : ∀ a0 k, LeO (Qb0.f k a0) (Qb0.f (k + 1) a0) := by
 intro l0 k;refine LeO.trans (@Qbt.mono (Qb0.inst k l0) _ _ k) ?_;unfold Qbt.f;refine LeO.bind (LeO.refl _) (fun t=>Qb0.mono_i _ _ (fun s r h=> ?_) _ _ _ _);obtain ⟨v,hv,e⟩:=Option.map_eq_some_iff.mp h;exact Option.map_eq_some_iff.mpr ⟨v,Qbi.mono _ _ _ _ hv,e⟩
open Go.Proofs.YtkgngggppcmpfaaGreat.X in
set_option maxHeartbeats 800000 in
set_option maxRecDepth 100000 in
theorem Qb0.lit (k : Nat) (A0 : Option Addr) (c0 : Nat) (l0 : List Int) (s : Int) (t : Bool) (B : Nat) (w : World) (hr0 : Kd.C (Kd.int .i64) w A0 l0.length l0) (hc0 : l0.length ≤ c0) (hB : B < w.heap.size) (hc : w.cell? ⟨B, 0, none⟩ = some (.slice A0 l0.length c0)) (h : (Qb0.inst k l0).p s = some t) :
 Fv Tryz.prog 289 #[.pointer (some ⟨B,0,none⟩)] #[.int .i64 s] (.bool t) w:=by
 intro W hb;have hc':W.cell? ⟨B,0,none⟩=some (.slice A0 l0.length c0):=(hb.cell (p:=⟨B,0,none⟩) hB).trans hc;obtain ⟨v,hv,rfl⟩:=Option.map_eq_some_iff.mp h;have HV:=Aside0.mk hv;have HR:=Aside0.mk (Kd.C_below hr0 hb);have HC:=Aside0.mk hc0;clear h hv hr0 hb hc hc0;have hu:=Tryz.underlying26;go_enter Tryz.func289,Tryz.ntmps289;go_wp2_with (go_at_call 283;(with_reducible refine (Qbi.calls k _ _ l0 s v _ HR.out HC.out HV.out).mono ?_);rintro e w1 ⟨rfl,hb⟩)
 go_ret
 exact ⟨rfl,hb⟩
open Go.Proofs.YtkgngggppcmpfaaGreat.X in
set_option maxHeartbeats 800000 in
set_option maxRecDepth 100000 in
theorem Qb0.calls (k : Nat) (A0_0 : Option Addr) (c0_0 : Nat) (l0_0 : List Int) (r : List Int) (w : World) (hr0_0 : Kd.C (Kd.int .i64) w A0_0 l0_0.length l0_0) (hc0_0 : l0_0.length ≤ c0_0) (h : Qb0.f k l0_0 = some r) :
 Calls Tryz.prog 169 #[.agg #[.slice A0_0 l0_0.length c0_0]] w fun e w'=> ∃ v0_:Value,e= .returned (v0_)∧Kd.R (Kd.int .i64) 3 w' w.heap.size (fun _=>True) v0_ r∧Below w.heap.size w w':=by
 unfold Qb0.f at h;have HF:=Aside0.mk h;have HR:=Aside0.mk hr0_0;have HC:=Aside0.mk hc0_0;clear h hr0_0 hc0_0;have hu:=Tryz.underlying26;go_enter Tryz.func169,Tryz.ntmps169;go_wp2_with fail;have B0:=Aside0.mk (Qk (Below.refl w.heap.size w) (.cells #[.slice A0_0 l0_0.length c0_0] 26));refine (@Qbt.calls (Qb0.inst k l0_0) 289 #[.pointer (some ⟨w.heap.size,0,none⟩)] (Qga Tryz.func289 (by kernel_rfl) rfl) k _ _ l0_0 0 r _ (Kd.C_below HR.out B0.out) HC.out (fun s b hb=>Qb0.lit k A0_0 c0_0 l0_0 s b w.heap.size _ (Kd.C_below HR.out B0.out) HC.out (by simp) (by simp) hb) HF.out).mono ?_;rintro e w2 ⟨v0,rfl,hR,hb⟩;have hR2:=Kd.R_lower hR (show w.heap.size≤_ by simp);have B2:=Aside0.mk (Qdc B0.out hb);have HO:=Aside0.mk hR2;clear hR hR2 hb;go_wp2
 go_ret
 exact ⟨_,rfl,HO.out,B2.out⟩
def Qw.Fvb (P : Program) (g : Nat) (bd lb : Array Value) (x r : Value) (w : World) : Prop :=
 ∀ W,Below w.heap.size w W→Calls P g (bd.push x++lb) W fun e w'=>e= .returned r∧Below W.heap.size W w'
theorem Qw.Fvb.calls {P : Program} {g : Nat} {bd lb : Array Value} {x r : Value} {w W : World} (h : Qw.Fvb P g bd lb x r w) (hb : Below w.heap.size w W) :
 Calls P g (bd.push x++lb) W fun e w'=>e= .returned r∧Below W.heap.size W w':=h W hb
theorem Qw.bool_inv {H : Type} {P : Program} {e : TypeId} (he : P.underlying e = some .bool) {v : Value} {z : DataW H × List MemPlace} (h : plainElem P e v = some z) : ∃ c, v = .bool c ∧ z = (.lit (.bool c), []) := by
 unfold plainElem at h;rw [he] at h;cases v<;>simp at h;exact ⟨_,rfl,h.symm⟩
theorem Qw.look {H : Type} {P : Program} (w : World) {ops : Array Oper} {rest : List Oper} {o : Oper} {a : Act} {Q : Exit → Act → World → Prop}
 (hg:o.guard=none) (m x:Operand) (t:TypeId) (hop:o.op=Op.lookup t m x false)
 (k e:TypeId) (K:Go.Maps.Keyed P k) (ht:P.underlying t=some (.map k e)) (he:P.underlying e=some .bool) (hz:(zeroValue e).run P w= .ok (.bool false) w) (b n:Nat) (D:DataW H)
 (hm:a.eval m= .map (some b)) (hown:w.ownsMap P k (plainElem P e) b n D) (key:Value) (kl:Lit) (hx:a.eval x=key) (hkey:keyOf P k key=some kl) (r:Bool) (hr:D.atKey kl (.lit (.bool false))= .lit (.bool r))
 (hK:wpList P ops Q rest (a.put o.dst (.bool r)) w):
 wpList P ops Q (o::rest) a w:=by
 refine wpList_plain hg fun K' hK'=> ?_
 obtain ⟨v,ps,hrun,hv⟩:=hown.lookup K ht hz (plainElem_bool he false) hkey;obtain ⟨c,rfl,hc⟩:=Qw.bool_inv he hv;simp only [Prod.mk.injEq] at hc;rw [hr] at hc;have hcr:r=c:=by have:=hc.1;injection this with this;injection this
 subst hcr;unfold Oper.wp;simp [execOp,hop,hm,hx,hrun,Result.andThen];exact hK' _ _ hK
def Qw.own : Nat → (Int → Option Int) → List Int → List Int → Int → Option (List Int × List Int)
 |0,_,_,_,_=>none
 |k+1,m,met,own,x=>if (Lit.int .i64 x).wf=true then (if met.contains x=true then some (met,own) else if met.length<17592186044416 then (if own.length<17592186044416 then (m x).bind fun y=>Qw.own k m (met++ [x]) (own++ [x]) y else none) else none) else none
def Qw.go (k : Nat) (m : Int → Option Int) : List Int → List Int → List (List Int) → Option (List (List Int))
 | [],_,out=>some out
 |x::l,met,out=>if (Lit.int .i64 x).wf=true then (if met.contains x=true then Qw.go k m l met out else (Qw.own k m met [] x).bind fun r=>if out.length<5864062014805 then Qw.go k m l r.1 (out++ [r.2]) else none) else none
def Qw.f (k : Nat) (m : Int → Option Int) (l0 : List Int) : Option (List (List Int)) := Qw.go k m l0 [] []
theorem Qw.own_mono {m m' : Int → Option Int} (hm : ∀ x, LeO (m x) (m' x)) : ∀ k met own x, LeO (Qw.own k m met own x) (Qw.own (k + 1) m' met own x)
 |0,_,_,_=>fun r h=>by cases h
 |k+1,met,own,x=>by
  rw [Qw.own,Qw.own];exact LeO.ite (LeO.ite (LeO.refl _) (LeO.ite (LeO.ite (LeO.bind (hm _) fun y=>Qw.own_mono hm k _ _ _) (LeO.refl _)) (LeO.refl _))) (LeO.refl _)
theorem Qw.go_mono {m m' : Int → Option Int} (hm : ∀ x, LeO (m x) (m' x)) (k : Nat) : ∀ l met out, LeO (Qw.go k m l met out) (Qw.go (k + 1) m' l met out)
 | [],met,out=>LeO.refl _
 |x::l,met,out=>by
  rw [Qw.go,Qw.go];exact LeO.ite (LeO.ite (Qw.go_mono hm k l _ _) (LeO.bind (Qw.own_mono hm k _ _ _) fun r=>LeO.ite (Qw.go_mono hm k l _ _) (LeO.refl _))) (LeO.refl _)
theorem Qw.mono {m m' : Int → Option Int} (hm : ∀ x, LeO (m x) (m' x)) (k : Nat) (l : List Int) : LeO (Qw.f k m l) (Qw.f (k + 1) m' l) := Qw.go_mono hm k l _ _
theorem Qw.zeroE (w : World) : (zeroValue 4).run Tryz.prog w = .ok (.bool false) w := by kernel_rfl
theorem Qw.law : Go.Maps.Keyed Tryz.prog 3 := Go.Maps.int_keyed Tryz.underlying3
theorem Qw.put_at {D : DataW Unit} {met : List Int} {x : Int} (hD : Go.Maps.IsMap D) (h : ∀ y, D.atKey (.int .i64 y) (.lit (.bool false)) = .lit (.bool (met.contains y))) (y : Int) :
 (D.put (.int .i64 x) (.lit (.bool true))).atKey (.int .i64 y) (.lit (.bool false))= .lit (.bool ((met++ [x]).contains y)):=by
 by_cases e:y=x
 ·
  subst e;rw [Go.Maps.atKey_put_same hD (show WideAt.IsKeyLit (.int .i64 y) from trivial)];simp
 ·
  rw [Go.Maps.atKey_put_other (fun he=>e (by injection he)),h y];simp [e]
open Go.Proofs.YtkgngggppcmpfaaGreat.X in
set_option maxHeartbeats 1600000 in
set_option maxRecDepth 100000 in
theorem Qw.calls (k : Nat) (A0 : Option Addr) (c0 : Nat) (l0 : List Int) (gF : Nat) (bdF lbF : Array Value) (m : Int → Option Int) (r : List (List Int)) (w : World) (eg : ∀ args w, (callFunc gF args).run Tryz.prog w = .ok (.enter gF args) w)
 (hr0:Kd.C (Kd.int .i64) w A0 l0.length l0) (hl:l0.length≤9223372036854775806) (hp: ∀ x y,m x=some y→Qw.Fvb Tryz.prog gF bdF lbF (.int .i64 x) (.int .i64 y) w) (h:Qw.f k m l0=some r):
 Calls Tryz.prog 240 #[.slice A0 l0.length c0, .func (.func gF) bdF lbF] w fun e w'=> ∃ v0_:Value,e= .returned v0_∧Kd.S (Kd.slice 3 (Kd.int .i64)) 24 w' w.heap.size (fun _=>True) v0_ r∧Below w.heap.size w w':=by
 have HR:=Aside0.mk hr0;have HL:=Aside0.mk hl;have HP:=Aside0.mk hp;have HF:=Aside0.mk h;have HB:=Aside0.mk (Below.refl w.heap.size w);clear hr0 hl hp h;have hmm:= @run_makeMap Tryz.prog;go_enter Tryz.func240,Tryz.ntmps240;go_wp2_with (first|((with_reducible refine Qb9 (N:=11) rfl ?_);refine Kd.S_lit (Kd.slice 3 (Kd.int .i64)) _ 24 ?hg (N:=11) ?hd (xs:=([] :List (List Int))) (inner:= []) (ok:=fun _=>True) (okp:=fun _=>True) ?hr ?hp (fun _ hk=>hk) trivial (Below.refl _ _) (Nat.le_refl _) (by simp) ?_;(case hd=>rfl);(case hg=>rfl);(case hr=>first|(go_simp;done)|(go_simp;rfl));(case hp=>exact (Reps.none _ _));intro v11 w2 ho hb hg_ hnew_;have HO:=Aside0.mk ho;have B2:=Aside0.mk hb;clear ho hb hg_ hnew_));obtain ⟨W0,hW0⟩: ∃ W0,W0=w2.alloc (.map #[] 0):=⟨_,rfl⟩
 rw [←hW0];have M0:=Aside0.mk (show W0.ownsMap (H:=Unit) Tryz.prog 3 (plainElem Tryz.prog 4) w2.heap.size 0 (.map []) by rw [hW0];exact World.ownsMap_made _ _ _ _);have R0:=Aside0.mk (show Kd.S (Kd.slice 3 (Kd.int .i64)) 24 W0 w.heap.size (fun k=>k≠w2.heap.size) v11 [] by rw [hW0];exact Kd.S_alloc (Kd.S_mono (Kd.S_bound HO.out) (fun k hk=>by have:=hk.2.2.1;omega)) _);have B3:=Aside0.mk (show Below w.heap.size w W0 by rw [hW0];exact Qk B2.out _);have GB:=Aside0.mk (show w.heap.size≤w2.heap.size from B2.out.size);generalize w2.heap.size=b at M0 R0 GB ⊢;clear hW0 HO B2 hmm
 go_loopw [5,15] (fun v5 v15 wr=> ∃ (q:Nat) (met:List Int) (out:List (List Int)) (D:DataW Unit),v15= .int .i64 q∧q≤l0.length∧Aside0 (Qw.go k m (l0.drop q) met out=some r)∧Aside0 (wr.ownsMap Tryz.prog 3 (plainElem Tryz.prog 4) b met.length D)∧Aside0 (∀ y,D.atKey (.int .i64 y) (.lit (.bool false))= .lit (.bool (met.contains y)))∧Aside0 (Kd.S (Kd.slice 3 (Kd.int .i64)) 24 wr w.heap.size (fun k=>k≠b) v5 out)∧Aside0 (Below w.heap.size w wr)) (fun _ v15 _=>l0.length - (intOf v15).toNat)
 case atStart=>exact ⟨0,[],[],_,rfl,Nat.zero_le _,⟨by rw [List.drop_zero];exact HF.out⟩,M0,⟨fun y=>rfl⟩,R0,B3⟩
 case round=>
  obtain ⟨q,met,out,D,rfl,hq,HG,HM,HD,HO,HB⟩:=hrel
  by_cases hlt:q<l0.length
  ·
   have hG:=HG.out;rw [List.drop_eq_getElem_cons hlt,Qw.go] at hG
   split at hG
   ·
    rename_i hwf;have WF:=Aside0.mk hwf;obtain ⟨ad,e1,hx0⟩:=Kd.at_int (Kd.C_below HR.out HB.out) (q:Int) (by omega) (by omega);rw [Int.toNat_natCast] at hx0;cases e1;have hx:wr.cell? (ad.add q)=some (.int .i64 l0[q]):=by rw [hx0,show rd l0 (q:Int)=l0[q] by simp [rd,List.getD_eq_getElem?_getD,hlt]]
    have e2:wrap64 ((q:Int)+1)=((q+1:Nat):Int):=by have:=HL.out;unfold wrap64;omega
    obtain ⟨x,hxe⟩: ∃ x,x=l0[q] :=⟨_,rfl⟩
    rw [←hxe] at hx hG WF;clear hxe hwf hx0;have p1:0≤((q:Nat):Int):=by omega
    have q1:((q:Nat):Int)<(l0.length:Int):=by omega
    by_cases hc:met.contains x=true
    ·
     rw [if_pos hc] at hG;have HC:=Aside0.mk hc;have HG2:=Aside0.mk hG;clear hc hG HG;go_wp2_with (first|(at_lookup;refine Qw.look _ rfl _ _ 151 rfl 3 4 Qw.law Tryz.underlying151 Tryz.underlying4 (Qw.zeroE _) b met.length D rfl HM.out _ (.int .i64 x) rfl (Go.Maps.keyOf_int_mk Tryz.underlying3 WF.out) true (by rw [HD.out,HC.out]) ?_));go_roundw
     case rel=>exact ⟨q+1,met,out,D,by first|rfl|go_num,by omega,HG2,HM,HD,HO,HB⟩
     case measure=>(try simp only [e2]);exact (Nat.sub_lt_sub_left (by omega) (Nat.lt_succ_self q):l0.length - (q+1)<l0.length - q)
    ·
     rw [if_neg hc] at hG;obtain ⟨rr,hrr,hG⟩:=Option.bind_eq_some_iff.mp hG
     split at hG
     ·
      rename_i hol;have HOL:=Aside0.mk hol;have HC:=Aside0.mk (show met.contains x=false by simpa using hc);have HG2:=Aside0.mk hG;have HRR:=Aside0.mk hrr;have F5:=Aside0.mk (show ∀ k_,wr.heap.size≤k_→k_≠b∧some k_≠(u5:Value).ownBlock from fun k_ hk=>⟨by have:=HM.out.lt;omega,fun e=>by have:=Kd.S_lt HO.out k_ e.symm;omega⟩);clear hol hc hG hrr HG;go_wp2_with (first|(at_lookup;refine Qw.look _ rfl _ _ 151 rfl 3 4 Qw.law Tryz.underlying151 Tryz.underlying4 (Qw.zeroE _) b met.length D rfl HM.out _ (.int .i64 x) rfl (Go.Maps.keyOf_int_mk Tryz.underlying3 WF.out) false (by rw [HD.out,HC.out]) ?_)|((with_reducible refine Qb9 (N:=22) rfl ?_);refine Kd.R_lit (Kd.int .i64) w.heap.size 3 ?hg (N:=22) ?hd (xs:=([] :List Int)) (inner:= []) (ok:=fun k_=>k_≠b∧some k_≠(u5:Value).ownBlock) (okp:=fun k_=>k_≠b∧some k_≠(u5:Value).ownBlock) ?hr ?hp (fun _ hk=>hk) (F5.out _ (Nat.le_refl _)) HB.out HB.out.size (by simp) ?_;(case hd=>rfl);(case hg=>rfl);(case hr=>first|(go_simp;done)|(go_simp;rfl));(case hp=>exact (Reps.none _ _));intro v22 w4 ho hb hg hnew;have HW:=Aside0.mk ho;have B4:=Aside0.mk hb;have HM4:=Aside0.mk (HM.out.kept hg (by simp));have HO4:=Aside0.mk (show Kd.S (Kd.slice 3 (Kd.int .i64)) 24 w4 w.heap.size (fun k_=>k_≠b∧some k_≠(v22:Value).ownBlock) u5 out from Kd.S_grown (Kd.S_mono (Kd.S_bound HO.out) (fun k_ hk=>⟨hk.1,fun e=>by obtain ⟨b',h1,h2⟩:=hnew;rw [h1] at e;injection e with e;have:=hk.2.2.1;omega⟩)) hg (fun _ _=>by simp));clear ho hb hg hnew HM HO));have LO:=Aside0.mk (fun (k_:Nat) (e:(u5:Value).ownBlock=some k_)=>Kd.S_lt HO4.out k_ e);have BL:=Aside0.mk HM4.out.lt;have SZ4:=Aside0.mk (Nat.le_refl w4.heap.size)
      go_loopg [9,10] k (fun kq v9 v10 wi=> ∃ (met1 own:List Int) (y:Int) (D1:DataW Unit),v10= .int .i64 y∧Aside0 (Qw.own kq m met1 own y=some rr)∧Aside0 (kq≤k)∧Aside0 (wi.ownsMap Tryz.prog 3 (plainElem Tryz.prog 4) b met1.length D1)∧Aside0 (∀ y,D1.atKey (.int .i64 y) (.lit (.bool false))= .lit (.bool (met1.contains y)))∧Aside0 (Kd.S (Kd.slice 3 (Kd.int .i64)) 24 wi w.heap.size (fun k_=>k_≠b∧some k_≠(v9:Value).ownBlock) u5 out)∧Aside0 (Kd.R (Kd.int .i64) 3 wi w.heap.size (fun k_=>k_≠b∧some k_≠(u5:Value).ownBlock) v9 own)∧Aside0 (w4.heap.size≤wi.heap.size)∧Aside0 (Below w.heap.size w wi))
      case atStart=>exact ⟨met,[],x,D,rfl,HRR,⟨Nat.le_refl _⟩,HM4,HD,HO4,HW,SZ4,B4⟩
      case round=>
       clear HM4 HD HO4 HW SZ4 B4;obtain ⟨met1,own,y,D1,rfl,HA,HK1,HM,HD,HO,HW,SZ,HB⟩:=hrel;cases gk with
       |zero=>exact absurd HA.out (by simp [Qw.own])
       |succ k1=>
        have hA:=HA.out;rw [Qw.own] at hA
        split at hA
        ·
         rename_i hwf;have WF2:=Aside0.mk hwf;clear hwf HA
         by_cases hc:met1.contains y=true
         ·
          rw [if_pos hc] at hA;have hrr:=Option.some.inj hA;subst hrr;have HC2:=Aside0.mk hc;clear hA hc;obtain ⟨Ao,co,eo⟩:=Kd.R_slice HW.out;subst eo;go_wp2_with (first|(at_lookup;refine Qw.look _ rfl _ _ 151 rfl 3 4 Qw.law Tryz.underlying151 Tryz.underlying4 (Qw.zeroE _) b met1.length D1 rfl HM.out _ (.int .i64 y) rfl (Go.Maps.keyOf_int_mk Tryz.underlying3 WF2.out) true (by rw [HD.out,HC2.out]) ?_)|((with_reducible refine Qcj (b:= .append) (xs:= #[.tmp 37, .tmp 39]) rfl ?_);at_builtin;refine Kd.S_append (Kd.slice 3 (Kd.int .i64)) (w0:=w) w.heap.size rfl (.tmp 37) (.tmp 39) 40 24 (.slice none 0 0) 24 rfl Tryz.underlying40 Qfs rfl (by decide) (by omega) u5 out own _ (fun k_=>k_≠b) (fun k_=>some k_=(Value.slice Ao own.length co).ownBlock) rfl rfl ?aP (fun k_ hk=>HW.out.1 k_ hk.symm) ?aF ?aO ?aB ?aS ?aL ?_;(case aP=>exact Kd.M_row (Kd.R_tight rfl HW.out));(case aF=>exact fun k_ hk=>by have:=HM.out.lt;omega);(case aO=>exact HO.out);(case aB=>exact HB.out);(case aS=>exact HB.out.size);(case aL=>have:=HOL.out;omega);intro v40 w8 ho hb hg hat;have HO8:=Aside0.mk ho;have B8:=Aside0.mk hb;have HM8:=Aside0.mk (HM.out.kept hg (Kd.S_away HO.out (fun _ hk=>hk.1)));clear ho hb hg hat));go_roundw
          case rel=>exact ⟨q+1,met1,out++ [own],D1,by first|rfl|go_num,by omega,HG2,HM8,HD,HO8,B8⟩
          case measure=>(try simp only [e2]);exact (Nat.sub_lt_sub_left (by omega) (Nat.lt_succ_self q):l0.length - (q+1)<l0.length - q)
         ·
          rw [if_neg hc] at hA
          split at hA
          ·
           rename_i hml
           split at hA
           ·
            rename_i hol2;obtain ⟨z,hz,hA⟩:=Option.bind_eq_some_iff.mp hA;have HC2:=Aside0.mk (show met1.contains y=false by simpa using hc);have HA2:=Aside0.mk hA;have HZ:=Aside0.mk (HP.out y z hz);have HML:=Aside0.mk hml;have HOL2:=Aside0.mk hol2;clear hc hA hz hml hol2;go_wp2_with (first|(at_lookup;refine Qw.look _ rfl _ _ 151 rfl 3 4 Qw.law Tryz.underlying151 Tryz.underlying4 (Qw.zeroE _) b met1.length D1 rfl HM.out _ (.int .i64 y) rfl (Go.Maps.keyOf_int_mk Tryz.underlying3 WF2.out) false (by rw [HD.out,HC2.out]) ?_)|(at_mapUpdate;refine wpList_mapUpdate_own _ rfl _ _ _ 151 rfl 3 4 Qw.law Tryz.underlying151 (plainElem Tryz.prog 4) b met1.length D1 rfl HM.out (by have:=HML.out;unfold maxLen;omega) _ _ (.int .i64 y) rfl rfl (Go.Maps.keyOf_int_mk Tryz.underlying3 WF2.out) (.lit (.bool true)) [] (plainElem_bool Tryz.underlying4 true) ?_;intro w5 hm5 hg5;have HM5:=Aside0.mk hm5;have HO5:=Aside0.mk (Kd.S_grown HO.out hg5 (fun k_ hk=>by intro e;injection e with e;exact hk.1 e));have HW5:=Aside0.mk (Kd.R_grown HW.out hg5 (fun k_ hk=>by intro e;injection e with e;exact hk.1 e));have B5:=Aside0.mk (Qmd HB.out (some b) HB.out.size hg5 (fun k_ e=>by injection e with e;rw [←e];exact GB.out));have SZ5:=Aside0.mk (Nat.le_trans SZ.out hg5.size);clear hm5 hg5)|((with_reducible refine Qcj (b:= .append) (xs:= #[.tmp 33, .tmp 35]) rfl ?_);at_builtin;refine Kd.R_append (Kd.int .i64) (w0:=w) w.heap.size rfl (.tmp 33) (.tmp 35) 24 3 (.int .i64 0) 8 rfl Tryz.underlying24 Qeo rfl (by decide) (by omega) u9 own y [.int .i64 y] (fun k_=>k_≠b∧some k_≠(u5:Value).ownBlock) (fun _=>False) rfl rfl ?aP (fun _ hk=>hk.elim) ?aF ?aO ?aB ?aS ?aL ?_;(case aP=>exact rfl);(case aF=>exact fun k_ hk=>⟨by have:=BL.out;have:=SZ5.out;omega,fun e=>by have:=LO.out k_ e.symm;have:=SZ5.out;omega⟩);(case aO=>exact HW5.out);(case aB=>exact B5.out);(case aS=>exact B5.out.size);(case aL=>have:=HOL2.out;omega);intro v36 w6 ho hb hg hat;have HW6:=Aside0.mk ho;have B6:=Aside0.mk hb;have HM6:=Aside0.mk (HM5.out.kept hg (fun e=>(HW5.out.1 b e.symm).1 rfl));have HO6:=Aside0.mk (Kd.S_after (v:=u9) (v1:=v36) (ok:=fun k_=>k_≠b) HO5.out hg hat);have SZ6:=Aside0.mk (Nat.le_trans SZ5.out hg.size);clear ho hb hg hat)|(go_at_fn gF;(with_reducible refine (Qw.Fvb.calls HZ.out B6.out).mono ?_);rintro e w7 ⟨rfl,hb⟩;have B7:=Aside0.mk (Qdc B6.out hb);have HW7:=Aside0.mk (Kd.R_below HW6.out hb);have HO7:=Aside0.mk (Kd.S_below HO6.out hb);have HM7:=Aside0.mk (HM6.out.kept (Qgn hb none) (by simp));have SZ7:=Aside0.mk (Nat.le_trans SZ6.out hb.size);clear hb));go_roundg k1
            case measure=>have:=HK1.out;omega
            case rel=>exact ⟨met1++ [y],own++ [y],z,_,rfl,HA2,⟨by have:=HK1.out;omega⟩,⟨by rw [List.length_append];exact HM7.out⟩,⟨Qw.put_at HM.out.isMap HD.out⟩,HO7,HW7,SZ7,B7⟩
           ·
            cases hA
          ·
           cases hA
        ·
         cases hA
     ·
      cases hG
   ·
    cases hG
  ·
   have e1:r=out:=by
    have:=HG.out;rw [List.drop_of_length_le (by omega),Qw.go] at this;exact (Option.some.inj this).symm
   subst e1;go_wp2
   go_ret
   exact ⟨_,rfl,Kd.S_mono HO.out (fun _ _=>trivial),HB.out⟩
def Qde.f (k : Nat) (l0_0 : List Int) : Option (List (List Int)) := (Qb0.f k l0_0).bind fun s => if s.length ≤ 9223372036854775806 then Qw.f k (fun x => Qb7.f k l0_0 x) s else none
theorem Qde.mono : ∀ a0 k, LeO (Qde.f k a0) (Qde.f (k + 1) a0) := fun l0 k => LeO.bind (Qb0.mono _ _) fun s => LeO.ite (Qw.mono (fun x => Qb7.mono _ _ _) k s) (LeO.refl _)
theorem Qde.lit (k : Nat) (A0 : Option Addr) (c0 : Nat) (l0 : List Int) (x y : Int) (w : World) (hr0 : Kd.C (Kd.int .i64) w A0 l0.length l0) (hc0 : l0.length ≤ c0) (h : Qb7.f k l0 x = some y) :
 Qw.Fvb Tryz.prog 235 #[.agg #[.slice A0 l0.length c0]] #[] (.int .i64 x) (.int .i64 y) w:=by
 intro W hb;show Calls Tryz.prog 235 #[.agg #[.slice A0 l0.length c0], .int .i64 x] W _
 exact Qb7.calls k A0 c0 l0 x y W (Kd.C_below hr0 hb) hc0 h
open Go.Proofs.YtkgngggppcmpfaaGreat.X in
set_option maxHeartbeats 1600000 in
set_option maxRecDepth 100000 in
theorem Qde.calls (k : Nat) (A0_0 : Option Addr) (c0_0 : Nat) (l0_0 : List Int) (r : List (List Int)) (w : World) (hr0_0 : Kd.C (Kd.int .i64) w A0_0 l0_0.length l0_0) (hc0_0 : l0_0.length ≤ c0_0) (h : Qde.f k l0_0 = some r) :
 Calls Tryz.prog 182 #[.agg #[.slice A0_0 l0_0.length c0_0]] w fun e w'=> ∃ v0_:Value,e= .returned (v0_)∧Kd.S (Kd.slice 3 (Kd.int .i64)) 24 w' w.heap.size (fun _=>True) v0_ r∧Below w.heap.size w w':=by
 unfold Qde.f at h;obtain ⟨s,hs,h⟩:=Option.bind_eq_some_iff.mp h
 split at h
 ·
  rename_i hl;have HS:=Aside0.mk hs;have HF:=Aside0.mk h;have HL:=Aside0.mk hl;have HR:=Aside0.mk hr0_0;have HC:=Aside0.mk hc0_0;clear h hs hl hr0_0 hc0_0;have hu:=Tryz.underlying26;go_enter Tryz.func182,Tryz.ntmps182;go_wp2_with fail;obtain ⟨W1,hW1⟩: ∃ W1,W1=w.alloc (.cells #[.slice A0_0 l0_0.length c0_0] 26):=⟨_,rfl⟩
  rw [←hW1];have B1:=Aside0.mk (show Below w.heap.size w W1 by rw [hW1];exact Qk (Below.refl _ _) _);have q1:W1.cell? ⟨w.heap.size,0,none⟩=some (.slice A0_0 l0_0.length c0_0):=by rw [hW1];simp
  clear hW1
  go_region_held3 (fun w'=>w'.cell? ⟨w.heap.size,0,none⟩=some (.slice A0_0 l0_0.length c0_0)∧Below w.heap.size w w')
   (first|exact ⟨q1,Qfz B1.out⟩|exact ⟨Qdx hb q1,Qdc (Qfz B1.out) hb⟩|exact ⟨Qdx hb (And.left (by assumption)),Qdc (And.right (by assumption)) hb⟩)
   (first
    |(go_at_call 169;refine (Qb0.calls k _ _ l0_0 s _ (by first|exact Kd.C_below HR.out (Qfz B1.out)|exact Kd.C_below HR.out (And.right (by assumption))) HC.out HS.out).mono ?_;rintro e w2 ⟨v1,rfl,hR,hb⟩;obtain ⟨Ao,co,rfl,hl,hC⟩:=Kd.R_reads hR)
    |(go_at_call 240;have B9:=Aside0.mk (show Below w.heap.size w w2 from And.right (by assumption));refine (Qw.calls k Ao co s 235 #[.agg #[.slice A0_0 l0_0.length c0_0]] #[] (fun x=>Qb7.f k l0_0 x) r _ (Qga Tryz.func235 (by kernel_rfl) rfl) hC HL.out (fun x y h=>Qde.lit k _ _ l0_0 x y _ (Kd.C_below HR.out (And.right (by assumption))) HC.out h) HF.out).mono ?_;rintro e w3 ⟨v2,rfl,hR2,hb⟩))
  all_goals
   go_wp2
   go_ret
   exact ⟨_,rfl,Kd.S_lower hR2 B9.out.size,And.right (by assumption)⟩
 ·
  cases h
end Go.Proofs.YtkgngggppcmpfaaGreat.L
end
section
namespace Go.Proofs.YtkgngggppcmpfaaGreat.L
open Go.RowKit Go.Proofs.YtkgngggppcmpfaaGreatW.PrintWords Go.Proofs.YtkgngggppcmpfaaGreatW.PrintLast Go.Proofs.YtkgngggppcmpfaaGreatW.PrintMore Go.Proofs.YtkgngggppcmpfaaGreat.X
attribute [local go_sem] Q2 Q4 Qbb Qbc Qt Qu Q3 Q5
set_option linter.unusedVariables false
set_option linter.unusedSimpArgs false
def Qbr.l0 : Nat → List Int → List (List Int) → Int → Int → Option (List Int)
 |0,_,_,_,_=>none
 |k+1,x3,x7,x8,x9=>if x9<x8 then (if 0≤x9 then (if x9<(x7.length:Int) then (if x3.length<17592186044416 then (Qbr.l0 k (x3++ [((Qbq x7 x9).length:Int)]) x7 x8 (wrap64 (x9+1))) else (none)) else (none)) else (none)) else (some x3)
def Qbr.f (k : Nat) (l0 : List (List Int)) : Option (List Int) := Qbr.l0 k (([] : List Int)) l0 (l0.length : Int) 0
theorem Qbr.mono_l : ∀ k, (∀ y0 y1 y2 y3, LeO (Qbr.l0 k y0 y1 y2 y3) (Qbr.l0 (k + 1) y0 y1 y2 y3))
 |0=>fun _ _ _ _ r h=>by simp [Qbr.l0] at h
 |k+1=>by
  have ih0:=Qbr.mono_l k
  ·
   intro y0 y1 y2 y3;unfold Qbr.l0
   repeat' first
   |(with_reducible exact ih0 _ _ _ _)
   |(with_reducible exact LeO.refl _)
   |(with_reducible exact LeO.none _)
   |(with_reducible refine LeO.ite ?_ ?_)
   |(with_reducible refine LeO.bind ?_ (fun _=> ?_))
   |exact ih0 _ _ _ _
   |exact LeO.none _
   |refine LeO.ite ?_ ?_
   |refine LeO.bind ?_ (fun _=> ?_)
theorem Qbr.mono : ∀ a0 k, LeO (Qbr.f k a0) (Qbr.f (k + 1) a0) := by
 intro a0 k;have ih0:=Qbr.mono_l k;unfold Qbr.f
 repeat' (with_reducible first|apply ih0|exact LeO.refl _|exact LeO.none _|refine LeO.ite ?_ ?_|refine LeO.bind ?_ (fun _=> ?_))
set_option maxHeartbeats 8000000 in
set_option maxRecDepth 100000 in
theorem Qbr.calls (k : Nat) (A0 : Option Addr) (c0 : Nat) (l0 : List (List Int)) (r : List Int) (w : World) (hr0 : Kd.C (Kd.slice 3 (Kd.int .i64)) w A0 l0.length l0) (hc0 : l0.length ≤ c0) (h : Qbr.f k l0 = some r) :
 Calls Tryz.prog 185 #[.slice A0 l0.length c0] w fun e w'=> ∃ v0_:Value,e= .returned (v0_)∧Kd.R (Kd.int .i64) 3 w' w.heap.size (fun _=>True) v0_ r∧Below w.heap.size w w':=by
 have HR0:=Aside0.mk hr0;have HC0:=Aside0.mk hc0;clear hr0 hc0;have HB:=Aside0.mk (Below.refl w.heap.size w);have H:(Qbr.l0 k (([] :List Int)) l0 (l0.length:Int) 0)=some r:=h;clear h;obtain ⟨y833,hy833⟩: ∃ y_:List Int,y_=(([] :List Int)):=⟨_,rfl⟩
 replace H:(Qbr.l0 k y833 l0 (l0.length:Int) 0)=some r:=by first|(rw [hy833];with_reducible exact H)|(have H2_:=(Option.bind_some _ _).symm.trans H;rw [hy833];with_reducible exact H2_)|(have H2_:=(Option.bind_some _ _).symm.trans H;with_reducible exact H2_)|with_reducible exact H|(rw [hy833];exact H)|exact H
 have Ny833:=Aside0.mk hy833;clear hy833;have H':=Aside0.mk H;clear H;go_enter Tryz.func185,Tryz.ntmps185;go_wp2_with (first|((with_reducible refine Qb9 (N:=6) rfl ?_);refine Kd.R_lit (Kd.int .i64) _ 3 ?hg (N:=6) ?hd (xs:=([] :List Int)) (inner:= []) (ok:=fun _=>True) (okp:=fun _=>True) ?hr ?hp (fun _ hk=>hk) trivial (Below.refl _ _) (Nat.le_refl _) (by simp) ?_;(case hd=>rfl);(case hg=>rfl);(case hr=>first|(go_simp;done)|(go_simp;rfl));(case hp=>exact (Reps.none _ _));intro v834 w2 ho3 hb hg_ hnew_;clear hg_ hnew_;(first|rw [←Ny833.out] at ho3|(simp only [Int.reduceToNat] at ho3;rw [←Ny833.out] at ho3));have HO835:=Aside0.mk (Kd.R_lower ho3 (Qj (uB HB)));replace HB:=Aside0.mk (Qb (uB HB) hb);clear hb ho3))
 go_loopg [3,9] k (fun kq v3 v9 w'=> ∃ (x3_1:List Int) (x9_1:Int),v9= .int .i64 x9_1∧Aside0 (Qbr.l0 kq x3_1 l0 (l0.length:Int) x9_1=some r)∧Aside0 (kq≤k)∧Aside0 (Kd.R (Kd.int .i64) 3 w' w.heap.size (fun _=>True) v3 x3_1)∧Aside0 (Below w.heap.size w w'))
 case atStart=>exact ⟨(y833),(0),(by first|rfl|(simp;done)|(simp [*];done)),H',⟨Nat.le_refl _⟩,⟨uR HO835⟩,⟨uB HB⟩⟩
 case round=>
  clear H'
  try clear c1
  try clear p2
  obtain ⟨x3_1,x9_1,rfl,HA,HK1,HO_3,HB⟩:=hrel;cases gk with
  |zero=>exact absurd HA.out (by simp [Qbr.l0])
  |succ k1=>
   have H:=HA.out;clear HA;simp only [Qbr.l0] at H
   by_cases c4:x9_1<(l0.length:Int)
   ·
    rw [if_pos c4] at H;have c4b0:=decide_eq_true c4;clear c4
    by_cases c5:0≤x9_1
    ·
     rw [if_pos c5] at H;have c5b0:=decide_eq_true c5;clear c5
     by_cases c6:x9_1<(l0.length:Int)
     ·
      rw [if_pos c6] at H;have c6b0:=decide_eq_true c6;clear c6
      by_cases c7:x3_1.length<17592186044416
      ·
       rw [if_pos c7] at H;have LMc7:=Aside0.mk c7;clear c7;obtain ⟨y837,hy837⟩: ∃ y_:List Int,y_=(x3_1++ [((Qbq l0 x9_1).length:Int)]):=⟨_,rfl⟩
       replace H:(Qbr.l0 k1 y837 l0 (l0.length:Int) (wrap64 (x9_1+1)))=some r:=by first|(rw [hy837];with_reducible exact H)|(have H2_:=(Option.bind_some _ _).symm.trans H;rw [hy837];with_reducible exact H2_)|(have H2_:=(Option.bind_some _ _).symm.trans H;with_reducible exact H2_)|with_reducible exact H|(rw [hy837];exact H)|exact H
       have Ny837:=Aside0.mk hy837;clear hy837;have H':=Aside0.mk H;clear H;have p836:0≤(x9_1:Int):=of_decide_eq_true (by first|(with_reducible assumption)|assumption);have q836:x9_1<(l0.length:Int):=of_decide_eq_true (by first|(with_reducible assumption)|assumption);obtain ⟨ad836,A836_0,c836_0,e836,hx836_0,hl836_0,hi836_0⟩:=Qla HR0.out x9_1 p836 q836;cases e836;replace hx836_0:=(HB.out.cell (World.block_lt_of_cell? w _ hx836_0)).trans hx836_0;have HR836_0:=Aside0.mk hi836_0;have HC836_0:=Aside0.mk hl836_0;clear hi836_0 hl836_0;replace p836:=eq_true p836;replace q836:=eq_true q836;go_wp2_with (first|((with_reducible refine Qcj (b:= .append) (xs:= #[.tmp 13, .tmp 16]) rfl ?_);at_builtin;refine Kd.R_append (Kd.int .i64) (w0:=w) w.heap.size rfl (.tmp 13) (.tmp 16) 24 3 (.int .i64 0) 8 rfl Tryz.underlying24 Qeo rfl (by decide) (by omega) u3 x3_1 ((Qbq l0 x9_1).length:Int) [.int .i64 ((Qbq l0 x9_1).length:Int)] (fun _=>True) (fun _=>False) rfl rfl ?aP (fun _ hk=>hk.elim) ?aF ?aO ?aB ?aS ?aL ?_;(case aP=>exact rfl);(case aB=>exact (uB HB));(case aF=>exact (fun _ _=>trivial));(case aO=>exact (uR HO_3));(case aS=>exact (Qj (uB HB)));(case aL=>have:=LMc7.out;omega);intro v838 w8 ho hb hg hat;rw [←Ny837.out] at ho;replace HB:=Aside0.mk (hb);have HO839:=Aside0.mk (ho);clear HO_3;clear ho hb hg hat));go_roundg k1
       case measure=>have:=HK1.out;omega
       case rel=>exact ⟨(y837),(wrap64 (x9_1+1)),(by first|rfl|(simp;done)|(simp [*];done)),H',⟨by have:=HK1.out;omega⟩,⟨uR HO839⟩,⟨uB HB⟩⟩
      ·
       rw [if_neg c7] at H;exact absurd H (by simp)
     ·
      rw [if_neg c6] at H;exact absurd H (by simp)
    ·
     rw [if_neg c5] at H;exact absurd H (by simp)
   ·
    rw [if_neg c4] at H;have c4b0:=decide_eq_false c4;clear c4;obtain rfl:=Option.some.inj H;go_wp2
    go_ret
    exact ⟨_,by first|rfl|(simp [Qd,Qe] <;>rfl)|(simp [*,Qd,Qe] <;>rfl),uR HO_3,uB HB⟩
end Go.Proofs.YtkgngggppcmpfaaGreat.L
end
section
namespace Go.Proofs.YtkgngggppcmpfaaGreat.L
open Go.RowKit Go.Proofs.YtkgngggppcmpfaaGreatW.PrintWords Go.Proofs.YtkgngggppcmpfaaGreatW.PrintLast Go.Proofs.YtkgngggppcmpfaaGreatW.PrintMore
attribute [local go_sem] Q2 Q4 Qbb Qbc Qt Qu Q3 Q5
set_option linter.unusedVariables false
set_option linter.unusedSimpArgs false
def Qdl.f (l0 : List Int) : Option (List Int) := if l0.length < 17592186044416 then some l0 else none
set_option maxHeartbeats 800000 in
set_option maxRecDepth 100000 in
theorem Qdl.calls (A0 : Option Addr) (c0 : Nat) (l0 : List Int) (r : List Int) (w : World) (hr0 : Kd.C (Kd.int .i64) w A0 l0.length l0) (hc0 : l0.length ≤ c0) (h : Qdl.f l0 = some r) :
 Calls Tryz.prog 295 #[.slice A0 l0.length c0] w fun e w'=> ∃ v0_:Value,e= .returned (v0_)∧Kd.R (Kd.int .i64) 3 w' w.heap.size (fun _=>True) v0_ r∧Below w.heap.size w w':=by
 unfold Qdl.f at h
 split at h
 ·
  rename_i hl;obtain rfl:=Option.some.inj h;clear h;have HL:=Aside0.mk hl;have HR0:=Aside0.mk hr0;clear hl hr0 hc0;cases A0 with
  |none=>
   have hn:l0= [] :=by
    apply Classical.byContradiction;intro hne;obtain ⟨_,e,_⟩:=HR0.out.2.2 (List.length_pos_iff.mpr hne);cases e
   subst hn;have hs:=Lib.run_eql_slice_nil (P:=Tryz.prog) w 24 3 none 0 c0 0 0 Tryz.underlying24;go_enter Tryz.func295,Tryz.ntmps295;go_wp2
   go_ret
   exact ⟨_,rfl,Kd.R_nil _ _ _ _ _,Below.refl _ _⟩
  |some a=>
   have hs:=Lib.run_eql_slice_nil (P:=Tryz.prog) w 24 3 (some a) l0.length c0 0 0 Tryz.underlying24;go_enter Tryz.func295,Tryz.ntmps295;go_wp2_with (first|((with_reducible refine Qb9 (N:=5) rfl ?_);refine Kd.R_lit (Kd.int .i64) _ 3 ?hg (N:=5) ?hd (xs:=([] :List Int)) (inner:= []) (ok:=fun _=>True) (okp:=fun _=>True) ?hr ?hp (fun _ hk=>hk) trivial (Below.refl _ _) (Nat.le_refl _) (by simp) ?_;(case hd=>rfl);(case hg=>rfl);(case hr=>first|(go_simp;done)|(go_simp;rfl));(case hp=>exact (Reps.none _ _));intro v109 w3 ho4 hb hg_ hnew_;clear hg_ hnew_;have HB:=Aside0.mk hb;have HO:=Aside0.mk ho4;clear hb ho4)|((with_reducible refine Qcj (b:= .append) (xs:= #[.tmp 5, .tmp 6]) rfl ?_);at_builtin;refine Kd.R_append_rows (Kd.int .i64) (w0:=w) w.heap.size rfl (.tmp 5) (.tmp 6) 24 3 (.int .i64 0) 8 rfl Tryz.underlying24 Qeo rfl (by decide) (by omega) v109 [] l0 _ _ _ (fun _=>True) (fun _=>False) rfl rfl ?aO ?aR (fun _ _ h=>h) (fun _ h=>h.elim) ?aF ?aB ?aS ?aL ?_;(case aR=>exact (Kd.C_below HR0.out HB.out));(case aB=>exact HB.out);(case aF=>exact (fun _ _=>trivial));(case aO=>exact HO.out);(case aS=>exact HB.out.size);(case aL=>have:=HL.out;simp;omega);intro v112 w5 ho hb hg hat;have HB2:=Aside0.mk hb;have HO2:=Aside0.mk ho;clear ho hb hg hat))
   go_ret
   exact ⟨_,rfl,by simpa using HO2.out,HB2.out⟩
 ·
  exact absurd h (by simp)
def Qds.ren : Go.Shelf.Ren := ⟨fun | 5 => 296 | 8 => 338 | 7 => 337 | 19 => 361 | 20 => 362 | 10 => 352 | 11 => 353 | 12 => 354 | 13 => 355 | 14 => 356 | 15 => 357 | 16 => 358 | 17 => 359 | 18 => 360 | 30 => 364 | 31 => 365 | 32 => 366 | 33 => 367 | 34 => 368 | 35 => 369 | 40 => 370 | n => n, fun | 23 => 24 | 25 => 3 | 3 => 3 | 32 => 149 | 22 => 24 | 0 => 0 | 44 => 163 | 46 => 92 | 4 => 4 | 36 => 172 | 35 => 171 | 41 => 29 | 5 => 5 | 9 => 9 | 53 => 176 | 57 => 180 | 63 => 182 | 64 => 49 | n => n, fun | n => n⟩
theorem Qds.lays : Go.Proofs.SlLaysM.n5 Tryz.prog Qds.ren where
 mixed:=by kernel_rfl
 f5 := ⟨ "slices.Sort[[]int,int]", by decide, Tryz.func296.trans (congrArg some (by kernel_rfl))⟩
 f7 := ⟨ "slices.pdqsortOrdered[int]", by decide, Tryz.func337.trans (congrArg some (by kernel_rfl))⟩
 f8:=Tryz.func338.trans (congrArg some (by kernel_rfl))
 f10 := ⟨ "slices.insertionSortOrdered[int]", by decide, Tryz.func352.trans (congrArg some (by kernel_rfl))⟩
 f11 := ⟨ "slices.heapSortOrdered[int]", by decide, Tryz.func353.trans (congrArg some (by kernel_rfl))⟩
 f12 := ⟨ "slices.breakPatternsOrdered[int]", by decide, Tryz.func354.trans (congrArg some (by kernel_rfl))⟩
 f13 := ⟨ "slices.choosePivotOrdered[int]", by decide, Tryz.func355.trans (congrArg some (by kernel_rfl))⟩
 f14 := ⟨ "slices.reverseRangeOrdered[int]", by decide, Tryz.func356.trans (congrArg some (by kernel_rfl))⟩
 f15 := ⟨ "slices.partialInsertionSortOrdered[int]", by decide, Tryz.func357.trans (congrArg some (by kernel_rfl))⟩
 f16 := ⟨ "cmp.Less[int]", by decide, Tryz.func358.trans (congrArg some (by kernel_rfl))⟩
 f17 := ⟨ "slices.partitionEqualOrdered[int]", by decide, Tryz.func359.trans (congrArg some (by kernel_rfl))⟩
 f18 := ⟨ "slices.partitionOrdered[int]", by decide, Tryz.func360.trans (congrArg some (by kernel_rfl))⟩
 f19:=Tryz.func361.trans (congrArg some (by kernel_rfl))
 f20:=Tryz.func362.trans (congrArg some (by kernel_rfl))
 f30 := ⟨ "slices.siftDownOrdered[int]", by decide, Tryz.func364.trans (congrArg some (by kernel_rfl))⟩
 f31:=Tryz.func365.trans (congrArg some (by kernel_rfl))
 f32:=Tryz.func366.trans (congrArg some (by kernel_rfl))
 f33 := ⟨ "slices.medianAdjacentOrdered[int]", by decide, Tryz.func367.trans (congrArg some (by kernel_rfl))⟩
 f34 := ⟨ "slices.medianOrdered[int]", by decide, Tryz.func368.trans (congrArg some (by kernel_rfl))⟩
 f35 := ⟨ "cmp.isNaN[int]", by decide, Tryz.func369.trans (congrArg some (by kernel_rfl))⟩
 f40 := ⟨ "slices.order2Ordered[int]", by decide, Tryz.func370.trans (congrArg some (by kernel_rfl))⟩
 t0:=Tryz.underlying0
 a0:=Tryz.isAgg0
 z0:=Tryz.sizeOf0
 v0:=Tryz.zeroValue0
 t3:=Tryz.underlying3
 a3:=Tryz.isAgg3
 z3:=Tryz.sizeOf3
 v3:=Tryz.zeroValue3
 t4:=Tryz.underlying4
 a4:=Tryz.isAgg4
 z4:=Tryz.sizeOf4
 v4:=Tryz.zeroValue4
 t5:=Tryz.underlying5
 a5:=Tryz.isAgg5
 z5:=Tryz.sizeOf5
 v5:=Tryz.zeroValue5
 t9:=Tryz.underlying9
 a9:=Tryz.isAgg9
 z9:=Tryz.sizeOf9
 v9:=Tryz.zeroValue9
 t22:=Tryz.underlying24
 a22:=Tryz.isAgg24
 z22:=Tryz.sizeOf24
 v22:=Tryz.zeroValue24
 t23:=Tryz.underlying24
 a23:=Tryz.isAgg24
 z23:=Tryz.sizeOf24
 v23:=Tryz.zeroValue24
 t25:=Tryz.underlying3
 a25:=Tryz.isAgg3
 z25:=Tryz.sizeOf3
 v25:=Tryz.zeroValue3
 t32:=Tryz.underlying149
 a32:=Tryz.isAgg149
 z32:=Tryz.sizeOf149
 v32:=Tryz.zeroValue149
 t35:=Tryz.underlying171
 a35:=Tryz.isAgg171
 z35:=Tryz.sizeOf171
 v35:=Tryz.zeroValue171
 t36:=Tryz.underlying172
 a36:=Tryz.isAgg172
 z36:=Tryz.sizeOf172
 v36:=Tryz.zeroValue172
 t41:=Tryz.underlying29
 a41:=Tryz.isAgg29
 z41:=Tryz.sizeOf29
 v41:=Tryz.zeroValue29
 t44:=Tryz.underlying163
 a44:=Tryz.isAgg163
 z44:=Tryz.sizeOf163
 v44:=Tryz.zeroValue163
 t46:=Tryz.underlying92
 a46:=Tryz.isAgg92
 z46:=Tryz.sizeOf92
 v46:=Tryz.zeroValue92
 t53:=Tryz.underlying176
 a53:=Tryz.isAgg176
 z53:=Tryz.sizeOf176
 v53:=Tryz.zeroValue176
 t57:=Tryz.underlying180
 a57:=Tryz.isAgg180
 z57:=Tryz.sizeOf180
 v57:=Tryz.zeroValue180
 t63:=Tryz.underlying182
 a63:=Tryz.isAgg182
 z63:=Tryz.sizeOf182
 v63:=Tryz.zeroValue182
 t64:=Tryz.underlying49
 a64:=Tryz.isAgg49
 z64:=Tryz.sizeOf49
 v64:=Tryz.zeroValue49
theorem Qds.heap {w : World} {g e : Nat} {cur : Array Value} (h : w.heap[g]? = some (.cells cur e (0, 0))) (f : Array Value → Array Value) : (Go.Sort.mapBlock w g f).heap[g]? = some (.cells (f cur) e (0, 0)) := by
 unfold Go.Sort.mapBlock;show (w.heap.modify g (Go.Sort.onCells f))[g]? =_
 rw [Array.getElem?_modify,if_pos rfl,h];rfl
theorem Qds.far {w : World} {g k : Nat} (hk : k ≠ g) (f : Array Value → Array Value) : (Go.Sort.mapBlock w g f).heap[k]? = w.heap[k]? := by
 unfold Go.Sort.mapBlock;show (w.heap.modify g (Go.Sort.onCells f))[k]? =_
 rw [Array.getElem?_modify,if_neg (fun e=>hk e.symm)]
theorem Qds.hold {g n c base e : Nat} {ok : Nat → Prop} {w : World} {xs : List Int} (h : (Kd.int .i64).R e w base ok (.slice (some ⟨g, 0, none⟩) n c) xs) : Go.Sort.Holds (Value.int .i64) w g 0 xs.toArray := by
 obtain ⟨hn,_,_⟩:=Kd.R_reads' h;subst hn;intro j hj;have hj':j<xs.length:=by simpa using hj
 obtain ⟨h1,h2⟩:=Kd.R_celln (0:Int) h (j:Int) (by omega) (by omega);rw [Int.toNat_natCast] at h1 h2;rw [Nat.zero_add];refine ⟨?_,h2⟩;rw [h1];simp [rdOf,List.getD_eq_getElem?_getD,hj']
theorem Qds.put {g n c base e : Nat} {ok : Nat → Prop} {w : World} {xs zs : List Int} (h : (Kd.int .i64).R e w base ok (.slice (some ⟨g, 0, none⟩) n c) xs) (hz : zs.length = xs.length) :
 (Kd.int .i64).R e (Go.Sort.putRow (Value.int .i64) w g 0 zs.toArray) base ok (.slice (some ⟨g,0,none⟩) n c) zs:=by
 obtain ⟨hn,_,_⟩:=Kd.R_reads' h;subst hn;have ho:=Kd.own_of_R h;obtain ⟨hl,hor⟩:=ho;rcases hor with ⟨e1,_⟩|⟨g',cap,cur,e1,hb,hh,hnc,hcm,hcs,ht⟩
 ·
  cases e1
 ·
  injection e1 with e2 e3 e4
  injection e2 with e2
  injection e2 with e2
  subst e2 e4;have hown:(Go.Sort.putRow (Value.int .i64) w g 0 zs.toArray).ownsRow base e 1 (.slice (some ⟨g,0,none⟩) xs.length c) zs.length (encs (Value.int .i64) zs):=by
   rw [hz];refine ⟨by rw [Qgv];omega, .inr ⟨g,c,Go.Sort.putCells (Value.int .i64) 0 zs.toArray cur,rfl,hb,Qds.heap hh _,hnc,hcm,?_,?_⟩⟩
   ·
    unfold Go.Sort.putCells;rw [Array.size_mapIdx];exact hcs
   ·
    refine List.ext_getElem? fun j=> ?_
    rw [List.getElem?_take]
    by_cases hj:j<xs.length*1
    ·
     rw [if_pos hj];have hjc:j<cur.size:=by omega
     have hjz:j<zs.length:=by omega
     unfold Go.Sort.putCells encs;rw [Array.getElem?_toList,Array.getElem?_mapIdx,Array.getElem?_eq_getElem hjc,List.getElem?_map,List.getElem?_eq_getElem hjz];simp [hjz]
    ·
     rw [if_neg hj,List.getElem?_eq_none (by rw [Qgv];omega)]
  rw [hz] at hown;rw [←hz] at hown ⊢;exact Kd.R_of_own hown h.1
theorem Qds.grown {d : Kd Int} {base e : Nat} {ok : Nat → Prop} {v : Value} {w : World} {xs : List Int} (h : d.R e w base ok v xs) (os : Array Obj) : d.R e (Go.Sort.grow w os) base ok v xs := by
 refine Kd.R_step h fun k _ hk=> ?_
 unfold Go.Sort.grow;show (w.heap++os)[k]? =_
 rw [Array.getElem?_append_left hk]
theorem Qds.below {B g n : Nat} {w0 w : World} (h : Below B w0 w) (hg : B ≤ g) (hB : B ≤ w.heap.size) (d : Array Int) (os : Array Obj) : Below B w0 (Go.Sort.grow (Go.Sort.putRow (Value.int .i64) (Go.Sort.ahead w n) g 0 d) os) := by
 refine ⟨h.os,h.tape,h.output,?_,fun k hk=> ?_⟩
 ·
  refine Nat.le_trans h.size ?_;show _≤((w.heap.modify g _)++os).size
  rw [Array.size_append,Array.size_modify];omega
 ·
  rw [←h.block k hk];show ((w.heap.modify g (Go.Sort.onCells _))++os)[k]? =_
  rw [Array.getElem?_append_left (by rw [Array.size_modify];omega),Array.getElem?_modify,if_neg (by omega)]
def Qc7.sort (l : List Int) : List Int := l.mergeSort fun x y => decide (x ≤ y)
set_option maxHeartbeats 800000 in
set_option maxRecDepth 100000 in
theorem Qds.calls (v : Value) (l : List Int) (w0 w : World) (hb : Below w0.heap.size w0 w) (hr : Kd.R (Kd.int .i64) 3 w w0.heap.size (fun _ => True) v l) (hl : l.length ≤ 17592186044416) :
 Calls Tryz.prog 296 #[v] w fun e w'=>e= .returned (.tuple #[])∧Kd.R (Kd.int .i64) 3 w' w0.heap.size (fun _=>True) v (Qc7.sort l)∧Below w0.heap.size w0 w':=by
 cases l with
 |nil=>
  obtain ⟨A,c,rfl,_,_⟩:=Kd.R_reads hr;refine (Go.Proofs.AnyM.slices_Sort_int_none Qds.lays A c w).mono ?_;rintro e w' ⟨rfl,rfl⟩;have e1:Qc7.sort [] = [] :=by unfold Qc7.sort;simp
  rw [e1];exact ⟨rfl,hr,hb⟩
 |cons x l=>
  obtain ⟨g,c,rfl,gb,gl,cl,hg⟩:=Kd.R_form hr (by simp);refine (Go.Proofs.AnyM.slices_Sort_int Qds.lays g 0 c (x::l) w (Qds.hold hr) gl (by omega)).mono ?_;rintro e w' ⟨rfl,n,os,rfl⟩;have h1:Kd.R (Kd.int .i64) 3 (Go.Sort.ahead w n) w0.heap.size (fun _=>True) (.slice (some ⟨g,0,none⟩) (x::l).length c) (x::l):=Kd.R_step hr fun _ _ _=>rfl
  exact ⟨rfl,Qds.grown (Qds.put h1 (by rw [List.length_mergeSort])) os,Qds.below hb gb hb.size _ os⟩
def Qc7.f (l0 : List Int) : Option (List Int) := if l0.length < 17592186044416 then some (Qc7.sort l0) else none
set_option maxHeartbeats 800000 in
set_option maxRecDepth 100000 in
theorem Qc7.calls (A0 : Option Addr) (c0 : Nat) (l0 : List Int) (r : List Int) (w : World) (hr0 : Kd.C (Kd.int .i64) w A0 l0.length l0) (hc0 : l0.length ≤ c0) (h : Qc7.f l0 = some r) :
 Calls Tryz.prog 189 #[.slice A0 l0.length c0] w fun e w'=> ∃ v0_:Value,e= .returned (v0_)∧Kd.R (Kd.int .i64) 3 w' w.heap.size (fun _=>True) v0_ r∧Below w.heap.size w w':=by
 unfold Qc7.f at h
 split at h
 ·
  rename_i hl;obtain rfl:=Option.some.inj h;have HL:=Aside0.mk hl;have HR:=Aside0.mk hr0;have HC:=Aside0.mk hc0;have HF:=Aside0.mk (show Qdl.f l0=some l0 from if_pos hl);clear h hl hr0 hc0;go_enter Tryz.func189,Tryz.ntmps189;go_wp2_with fail;refine (Qdl.calls A0 c0 l0 l0 _ HR.out HC.out HF.out).mono ?_;rintro e w1 ⟨v1,rfl,hR,hb⟩;have R1:=Aside0.mk hR;have B1:=Aside0.mk hb;clear hR hb;go_wp2_with fail;refine (Qds.calls v1 l0 w _ B1.out R1.out (by have:=HL.out;omega)).mono ?_;rintro e w2 ⟨rfl,hR,hb⟩;have R2:=Aside0.mk hR;have B2:=Aside0.mk hb;clear hR hb;go_wp2
  go_ret
  exact ⟨_,rfl,R2.out,B2.out⟩
 ·
  cases h
end Go.Proofs.YtkgngggppcmpfaaGreat.L
end
section
namespace Go.Proofs.YtkgngggppcmpfaaGreat.L
open Go.RowKit Go.Proofs.YtkgngggppcmpfaaGreatW.PrintWords Go.Proofs.YtkgngggppcmpfaaGreatW.PrintLast Go.Proofs.YtkgngggppcmpfaaGreatW.PrintMore Go.Proofs.YtkgngggppcmpfaaGreat.X
attribute [local go_sem] Q2 Q4 Qbb Qbc Qt Qu Q3 Q5
set_option linter.unusedVariables false
set_option linter.unusedSimpArgs false
def Qdm.f (k : Nat) (l0_0 : List Int) : Option (List Int × Bool) := (Qbj.f k l0_0).bind fun t960 => (if t960 = true then ((Qde.f k l0_0).bind fun t961 => ((Qbr.f k t961).bind fun t964 => ((Qc7.f t964).bind fun t967 => (some (t967, true))))) else (some (([] : List Int), false)))
theorem Qdm.mono : ∀ a0 k, LeO (Qdm.f k a0) (Qdm.f (k + 1) a0) := by
 intro a0 k;unfold Qdm.f
 repeat' (with_reducible first|apply Qbj.mono|apply Qde.mono|apply Qbr.mono|exact LeO.refl _|exact LeO.none _|refine LeO.ite ?_ ?_|refine LeO.bind ?_ (fun _=> ?_))
set_option maxHeartbeats 8000000 in
set_option maxRecDepth 100000 in
theorem Qdm.calls (k : Nat) (A0_0 : Option Addr) (c0_0 : Nat) (l0_0 : List Int) (r1 : List Int) (r2 : Bool) (w : World) (hr0_0 : Kd.C (Kd.int .i64) w A0_0 l0_0.length l0_0) (hc0_0 : l0_0.length ≤ c0_0) (h : Qdm.f k l0_0 = some (r1, r2)) :
 Calls Tryz.prog 44 #[.agg #[.slice A0_0 l0_0.length c0_0]] w fun e w'=> ∃ v0_:Value,e= .returned (.tuple #[v0_, .bool r2])∧Kd.R (Kd.int .i64) 3 w' w.heap.size (fun _=>True) v0_ r1∧Below w.heap.size w w':=by
 have hu26:=Tryz.underlying26;have HR0_0:=Aside0.mk hr0_0;have HC0_0:=Aside0.mk hc0_0;clear hr0_0 hc0_0;have HB:=Aside0.mk (Below.refl w.heap.size w);have H:((Qbj.f k l0_0).bind fun t960=>(if t960=true then ((Qde.f k l0_0).bind fun t961=>((Qbr.f k t961).bind fun t964=>((Qc7.f t964).bind fun t967=>(some (t967,true))))) else (some (([] :List Int),false))))=some (r1,r2):=h;clear h;obtain ⟨t960,A2,H⟩:=bs H;(try dsimp only at H)
 by_cases c3:t960=true
 ·
  subst c3;rw [if_pos rfl] at H;obtain ⟨t961,A4,H⟩:=bs H;(try dsimp only at H)
  obtain ⟨t964,A5,H⟩:=bs H;(try dsimp only at H)
  obtain ⟨t967,A6,H⟩:=bs H;(try dsimp only at H)
  simp only [Option.some.injEq,Prod.mk.injEq] at H;obtain ⟨rfl,rfl⟩:=H;go_enter Tryz.func44,Tryz.ntmps44;go_wp2_with (first|(refine bE (N:=1) (cs:= #[.slice A0_0 l0_0.length c0_0]) (t:=26) ?_;intro gb959 hg w7 hbox hb;have BK959:=Aside0.mk (hbox);have GW959:=Aside0.mk ((gV hg (uB HB)));have GE959:=GW959;replace HB:=Aside0.mk (Qb (uB HB) hb);clear hb hbox hg;have hcz8_0:=bC BK959;have hfz8_0:=Qf BK959.out 0)|(refine gA (some 5) Tryz.func178 #[.agg #[.slice A0_0 l0_0.length c0_0]] ?_;(with_reducible refine (Qbj.calls k _ _ l0_0 true _ (uD HR0_0 HB) HC0_0.out A2.out).mono ?_);rintro e w9 ⟨rfl,hb⟩;refine ⟨_,rfl,?_⟩;replace BK959:=Aside0.mk (Qc (uK BK959) hb);replace HB:=Aside0.mk (Qb (uB HB) hb);(try clear hb);have hcz10_0:=bC BK959;have hfz10_0:=Qf BK959.out 0)|(refine gA (some 8) Tryz.func182 #[.agg #[.slice A0_0 l0_0.length c0_0]] ?_;(with_reducible refine (Qde.calls k _ _ l0_0 t961 _ (uD HR0_0 HB) HC0_0.out A4.out).mono ?_);rintro e w11 ⟨v962,rfl,ho0,hb⟩;refine ⟨_,rfl,?_⟩;have HO963:=Aside0.mk (Kd.S_lower ho0 (Qj (uB HB)));replace BK959:=Aside0.mk (Qc (uK BK959) hb);replace HB:=Aside0.mk (Qb (uB HB) hb);(try clear hb ho0);obtain ⟨Ao12,co12,eo12⟩:=Kd.S_slice HO963.out;subst eo12)|(refine gA (some 9) Tryz.func185 #[.slice Ao12 t961.length co12] ?_;(with_reducible refine (Qbr.calls k _ _ t961 t964 _ ?side1 ?side2 A5.out).mono ?_);(case side1=>repeat (first|exact (Kd.S_reads' HO963.out).2.2|(with_reducible refine Kd.C_alloc ?_ _)|(with_reducible refine Kd.C_drewN ?_ _)|(with_reducible refine Kd.C_drew ?_)));(case side2=>exact (Kd.S_reads' HO963.out).2.1);rintro e w13 ⟨v965,rfl,ho0,hb⟩;refine ⟨_,rfl,?_⟩;replace HO963:=Aside0.mk (Kd.S_elder' (uS HO963) (Kd.R_base ho0) hb);have HO966:=Aside0.mk (Kd.R_lower ho0 (Qj (uB HB)));replace BK959:=Aside0.mk (Qc (uK BK959) hb);replace HB:=Aside0.mk (Qb (uB HB) hb);(try clear hb ho0);obtain ⟨Ao14,co14,eo14⟩:=Kd.R_slice HO966.out;subst eo14)|(refine gA (some 10) Tryz.func189 #[.slice Ao14 t964.length co14] ?_;(with_reducible refine (Qc7.calls _ _ t964 t967 _ (uE HO966) ?side2 A6.out).mono ?_);(case side2=>exact (Kd.R_reads' HO966.out).2.1);rintro e w15 ⟨v968,rfl,ho0,hb⟩;refine ⟨_,rfl,?_⟩;replace HO963:=Aside0.mk (Kd.S_elder' (uS HO963) (Kd.R_base ho0) hb);have HO969:=Aside0.mk (Kd.R_lower (Kd.R_new' ho0 (Kd.R_lt (uR HO966))) (Qj (uB HB)));replace HO966:=Aside0.mk (Kd.R_elder' (uR HO966) (Kd.R_base ho0) hb);replace BK959:=Aside0.mk (Qc (uK BK959) hb);replace HB:=Aside0.mk (Qb (uB HB) hb);(try clear hb ho0)))
  go_ret2
  exact ⟨_,by first|rfl|(simp [Qd,Qe] <;>rfl)|(simp [*,Qd,Qe] <;>rfl),by (with_reducible repeat (first|apply Kd.R_alloc|apply Kd.R_drewN|apply Kd.R_drew));exact Kd.R_mono HO969.out (fun _ hk=>trivial),uB HB⟩
 ·
  replace c3:=Bool.eq_false_iff.mpr c3;subst c3;rw [if_neg (show ¬ (false=true) by decide)] at H;simp only [Option.some.injEq,Prod.mk.injEq] at H;obtain ⟨rfl,rfl⟩:=H;go_enter Tryz.func44,Tryz.ntmps44;go_wp2_with (first|(refine bE (N:=1) (cs:= #[.slice A0_0 l0_0.length c0_0]) (t:=26) ?_;intro gb959 hg w16 hbox hb;have BK959:=Aside0.mk (hbox);have GW959:=Aside0.mk ((gV hg (uB HB)));have GE959:=GW959;replace HB:=Aside0.mk (Qb (uB HB) hb);clear hb hbox hg;have hcz17_0:=bC BK959;have hfz17_0:=Qf BK959.out 0)|(refine gA (some 5) Tryz.func178 #[.agg #[.slice A0_0 l0_0.length c0_0]] ?_;(with_reducible refine (Qbj.calls k _ _ l0_0 false _ (uD HR0_0 HB) HC0_0.out A2.out).mono ?_);rintro e w18 ⟨rfl,hb⟩;refine ⟨_,rfl,?_⟩;replace BK959:=Aside0.mk (Qc (uK BK959) hb);replace HB:=Aside0.mk (Qb (uB HB) hb);(try clear hb)))
  go_ret2
  exact ⟨_,by first|rfl|(simp [Qd,Qe] <;>rfl)|(simp [*,Qd,Qe] <;>rfl),by first|exact Kd.R_nil _ _ _ _ _|exact Kd.N_nil _ _ _ _ _|exact Kd.V_nil _ _ _ _ _|exact Kd.Q_nil _ _ _ _ _|exact Kd.S_nil _ _ _ _ _,uB HB⟩
def Qdw.f (k : Nat) (l0_0 : List Int) (a1 : Int) : Option (Int × Bool) := (Qbx.f k l0_0 a1).bind fun t971 => (if t971 = true then ((Qb7.f k l0_0 a1).bind fun t972 => (some (t972, true))) else (some (0, false)))
theorem Qdw.mono : ∀ a0 a1 k, LeO (Qdw.f k a0 a1) (Qdw.f (k + 1) a0 a1) := by
 intro a0 a1 k;unfold Qdw.f
 repeat' (with_reducible first|apply Qb7.mono|apply Qbx.mono|exact LeO.refl _|exact LeO.none _|refine LeO.ite ?_ ?_|refine LeO.bind ?_ (fun _=> ?_))
set_option maxHeartbeats 8000000 in
set_option maxRecDepth 100000 in
theorem Qdw.calls (k : Nat) (A0_0 : Option Addr) (c0_0 : Nat) (l0_0 : List Int) (a1 : Int) (r1 : Int) (r2 : Bool) (w : World) (hr0_0 : Kd.C (Kd.int .i64) w A0_0 l0_0.length l0_0) (hc0_0 : l0_0.length ≤ c0_0) (h : Qdw.f k l0_0 a1 = some (r1, r2)) :
 Calls Tryz.prog 79 #[.agg #[.slice A0_0 l0_0.length c0_0], .int .i64 a1] w fun e w'=>e= .returned (.tuple #[.int .i64 r1, .bool r2])∧Below w.heap.size w w':=by
 have hu26:=Tryz.underlying26;have HR0_0:=Aside0.mk hr0_0;have HC0_0:=Aside0.mk hc0_0;clear hr0_0 hc0_0;have HB:=Aside0.mk (Below.refl w.heap.size w);have H:((Qbx.f k l0_0 a1).bind fun t971=>(if t971=true then ((Qb7.f k l0_0 a1).bind fun t972=>(some (t972,true))) else (some (0,false))))=some (r1,r2):=h;clear h;obtain ⟨t971,A3,H⟩:=bs H;(try dsimp only at H)
 by_cases c4:t971=true
 ·
  subst c4;rw [if_pos rfl] at H;obtain ⟨t972,A5,H⟩:=bs H;(try dsimp only at H)
  simp only [Option.some.injEq,Prod.mk.injEq] at H;obtain ⟨rfl,rfl⟩:=H;go_enter Tryz.func79,Tryz.ntmps79;go_wp2_with (first|(refine bE (N:=2) (cs:= #[.slice A0_0 l0_0.length c0_0]) (t:=26) ?_;intro gb970 hg w6 hbox hb;have BK970:=Aside0.mk (hbox);have GW970:=Aside0.mk ((gV hg (uB HB)));have GE970:=GW970;replace HB:=Aside0.mk (Qb (uB HB) hb);clear hb hbox hg;have hcz7_0:=bC BK970;have hfz7_0:=Qf BK970.out 0)|(refine gA (some 8) Tryz.func148 #[.agg #[.slice A0_0 l0_0.length c0_0], .int .i64 a1] ?_;(with_reducible refine (Qbx.calls k _ _ l0_0 a1 true _ (uD HR0_0 HB) HC0_0.out A3.out).mono ?_);rintro e w8 ⟨rfl,hb⟩;refine ⟨_,rfl,?_⟩;replace BK970:=Aside0.mk (Qc (uK BK970) hb);replace HB:=Aside0.mk (Qb (uB HB) hb);(try clear hb);have hcz9_0:=bC BK970;have hfz9_0:=Qf BK970.out 0)|(refine gA (some 12) Tryz.func235 #[.agg #[.slice A0_0 l0_0.length c0_0], .int .i64 a1] ?_;(with_reducible refine (Qb7.calls k _ _ l0_0 a1 t972 _ (uD HR0_0 HB) HC0_0.out A5.out).mono ?_);rintro e w10 ⟨rfl,hb⟩;refine ⟨_,rfl,?_⟩;replace BK970:=Aside0.mk (Qc (uK BK970) hb);replace HB:=Aside0.mk (Qb (uB HB) hb);(try clear hb)))
  go_ret2
  exact ⟨by first|rfl|(simp [Qd,Qe] <;>rfl)|(simp [*,Qd,Qe] <;>rfl),uB HB⟩
 ·
  replace c4:=Bool.eq_false_iff.mpr c4;subst c4;rw [if_neg (show ¬ (false=true) by decide)] at H;simp only [Option.some.injEq,Prod.mk.injEq] at H;obtain ⟨rfl,rfl⟩:=H;go_enter Tryz.func79,Tryz.ntmps79;go_wp2_with (first|(refine bE (N:=2) (cs:= #[.slice A0_0 l0_0.length c0_0]) (t:=26) ?_;intro gb970 hg w11 hbox hb;have BK970:=Aside0.mk (hbox);have GW970:=Aside0.mk ((gV hg (uB HB)));have GE970:=GW970;replace HB:=Aside0.mk (Qb (uB HB) hb);clear hb hbox hg;have hcz12_0:=bC BK970;have hfz12_0:=Qf BK970.out 0)|(refine gA (some 8) Tryz.func148 #[.agg #[.slice A0_0 l0_0.length c0_0], .int .i64 a1] ?_;(with_reducible refine (Qbx.calls k _ _ l0_0 a1 false _ (uD HR0_0 HB) HC0_0.out A3.out).mono ?_);rintro e w13 ⟨rfl,hb⟩;refine ⟨_,rfl,?_⟩;replace BK970:=Aside0.mk (Qc (uK BK970) hb);replace HB:=Aside0.mk (Qb (uB HB) hb);(try clear hb)))
  go_ret2
  exact ⟨by first|rfl|(simp [Qd,Qe] <;>rfl)|(simp [*,Qd,Qe] <;>rfl),uB HB⟩
def Qc3.f (k : Nat) (l0_0 : List Int) : Option (Bool) := (Qbk.f k l0_0).bind fun t492 => (if t492 = true then ((Qb8.f k l0_0).bind fun t493 => (some t493)) else (some false))
theorem Qc3.mono : ∀ a0 k, LeO (Qc3.f k a0) (Qc3.f (k + 1) a0) := by
 intro a0 k;unfold Qc3.f
 repeat' (with_reducible first|apply Qbk.mono|apply Qb8.mono|exact LeO.refl _|exact LeO.none _|refine LeO.ite ?_ ?_|refine LeO.bind ?_ (fun _=> ?_))
set_option maxHeartbeats 8000000 in
set_option maxRecDepth 100000 in
theorem Qc3.calls (k : Nat) (A0_0 : Option Addr) (c0_0 : Nat) (l0_0 : List Int) (r : Bool) (w : World) (hr0_0 : Kd.C (Kd.int .i64) w A0_0 l0_0.length l0_0) (hc0_0 : l0_0.length ≤ c0_0) (h : Qc3.f k l0_0 = some r) :
 Calls Tryz.prog 165 #[.agg #[.slice A0_0 l0_0.length c0_0]] w fun e w'=>e= .returned (.bool r)∧Below w.heap.size w w':=by
 have hu26:=Tryz.underlying26;have HR0_0:=Aside0.mk hr0_0;have HC0_0:=Aside0.mk hc0_0;clear hr0_0 hc0_0;have HB:=Aside0.mk (Below.refl w.heap.size w);have H:((Qbk.f k l0_0).bind fun t492=>(if t492=true then ((Qb8.f k l0_0).bind fun t493=>(some t493)) else (some false)))=some r:=h;clear h;obtain ⟨t492,A2,H⟩:=bs H;(try dsimp only at H)
 by_cases c3:t492=true
 ·
  subst c3;rw [if_pos rfl] at H;obtain ⟨t493,A4,H⟩:=bs H;(try dsimp only at H)
  obtain rfl:=Option.some.inj H;go_enter Tryz.func165,Tryz.ntmps165;go_wp2_with (first|(refine bE (N:=1) (cs:= #[.slice A0_0 l0_0.length c0_0]) (t:=26) ?_;intro gb491 hg w5 hbox hb;have BK491:=Aside0.mk (hbox);have GW491:=Aside0.mk ((gV hg (uB HB)));have GE491:=GW491;replace HB:=Aside0.mk (Qb (uB HB) hb);clear hb hbox hg;have hcz6_0:=bC BK491;have hfz6_0:=Qf BK491.out 0)|(refine gA (some 4) Tryz.func183 #[.agg #[.slice A0_0 l0_0.length c0_0]] ?_;(with_reducible refine (Qbk.calls k _ _ l0_0 true _ (uD HR0_0 HB) HC0_0.out A2.out).mono ?_);rintro e w7 ⟨rfl,hb⟩;refine ⟨_,rfl,?_⟩;replace BK491:=Aside0.mk (Qc (uK BK491) hb);replace HB:=Aside0.mk (Qb (uB HB) hb);(try clear hb);have hcz8_0:=bC BK491;have hfz8_0:=Qf BK491.out 0)|(go_at_call 285;(with_reducible refine (Qb8.calls k _ _ l0_0 t493 _ (uD HR0_0 HB) HC0_0.out A4.out).mono ?_);rintro e w9 ⟨rfl,hb⟩;replace BK491:=Aside0.mk (Qc (uK BK491) hb);replace HB:=Aside0.mk (Qb (uB HB) hb);(try clear hb)))
  go_ret
  exact ⟨by first|rfl|(simp [Qd,Qe] <;>rfl)|(simp [*,Qd,Qe] <;>rfl),uB HB⟩
 ·
  replace c3:=Bool.eq_false_iff.mpr c3;subst c3;rw [if_neg (show ¬ (false=true) by decide)] at H;obtain rfl:=Option.some.inj H;go_enter Tryz.func165,Tryz.ntmps165;go_wp2_with (first|(refine bE (N:=1) (cs:= #[.slice A0_0 l0_0.length c0_0]) (t:=26) ?_;intro gb491 hg w10 hbox hb;have BK491:=Aside0.mk (hbox);have GW491:=Aside0.mk ((gV hg (uB HB)));have GE491:=GW491;replace HB:=Aside0.mk (Qb (uB HB) hb);clear hb hbox hg;have hcz11_0:=bC BK491;have hfz11_0:=Qf BK491.out 0)|(refine gA (some 4) Tryz.func183 #[.agg #[.slice A0_0 l0_0.length c0_0]] ?_;(with_reducible refine (Qbk.calls k _ _ l0_0 false _ (uD HR0_0 HB) HC0_0.out A2.out).mono ?_);rintro e w12 ⟨rfl,hb⟩;refine ⟨_,rfl,?_⟩;replace BK491:=Aside0.mk (Qc (uK BK491) hb);replace HB:=Aside0.mk (Qb (uB HB) hb);(try clear hb)))
  go_ret
  exact ⟨by first|rfl|(simp [Qd,Qe] <;>rfl)|(simp [*,Qd,Qe] <;>rfl),uB HB⟩
def Qby.l0 : Nat → Int → List Int → Int → Int → Option (Bool)
 |0,_,_,_,_=>none
 |k+1,x1,x8,x9,x10=>if x10<x9 then (if 0≤x10 then (if x10<(x8.length:Int) then ((Qc0.f x1 x10).bind fun t496=>(if t496=true then (if (Go.bits .andNot .i64 (rd x8 x10) x1)=0 then (Qby.l0 k x1 x8 x9 (wrap64 (x10+1))) else (some false)) else (Qby.l0 k x1 x8 x9 (wrap64 (x10+1))))) else (none)) else (none)) else (some true)
def Qby.f (k : Nat) (l0_0 : List Int) (a1 : Int) : Option (Bool) := Qby.l0 k a1 l0_0 (l0_0.length : Int) 0
theorem Qby.mono_l : ∀ k, (∀ y0 y1 y2 y3, LeO (Qby.l0 k y0 y1 y2 y3) (Qby.l0 (k + 1) y0 y1 y2 y3))
 |0=>fun _ _ _ _ r h=>by simp [Qby.l0] at h
 |k+1=>by
  have ih0:=Qby.mono_l k
  ·
   intro y0 y1 y2 y3;unfold Qby.l0
   repeat' first
   |(with_reducible exact ih0 _ _ _ _)
   |(with_reducible exact LeO.refl _)
   |(with_reducible exact LeO.none _)
   |(with_reducible refine LeO.ite ?_ ?_)
   |(with_reducible refine LeO.bind ?_ (fun _=> ?_))
   |exact ih0 _ _ _ _
   |exact LeO.none _
   |refine LeO.ite ?_ ?_
   |refine LeO.bind ?_ (fun _=> ?_)
theorem Qby.mono : ∀ a0 a1 k, LeO (Qby.f k a0 a1) (Qby.f (k + 1) a0 a1) := by
 intro a0 a1 k;have ih0:=Qby.mono_l k;unfold Qby.f
 repeat' (with_reducible first|apply ih0|exact LeO.refl _|exact LeO.none _|refine LeO.ite ?_ ?_|refine LeO.bind ?_ (fun _=> ?_))
set_option maxHeartbeats 8000000 in
set_option maxRecDepth 100000 in
theorem Qby.calls (k : Nat) (A0_0 : Option Addr) (c0_0 : Nat) (l0_0 : List Int) (a1 : Int) (r : Bool) (w : World) (hr0_0 : Kd.C (Kd.int .i64) w A0_0 l0_0.length l0_0) (hc0_0 : l0_0.length ≤ c0_0) (h : Qby.f k l0_0 a1 = some r) :
 Calls Tryz.prog 278 #[.agg #[.slice A0_0 l0_0.length c0_0], .int .i64 a1] w fun e w'=>e= .returned (.bool r)∧Below w.heap.size w w':=by
 have hu26:=Tryz.underlying26;have HR0_0:=Aside0.mk hr0_0;have HC0_0:=Aside0.mk hc0_0;clear hr0_0 hc0_0;have HB:=Aside0.mk (Below.refl w.heap.size w);have H:(Qby.l0 k a1 l0_0 (l0_0.length:Int) 0)=some r:=h;clear h;have H':=Aside0.mk H;clear H;go_enter Tryz.func278,Tryz.ntmps278;go_wp2_with (first|(refine bE (N:=2) (cs:= #[.slice A0_0 l0_0.length c0_0]) (t:=26) ?_;intro gb494 hg w3 hbox hb;have BK494:=Aside0.mk (hbox);have GW494:=Aside0.mk ((gV hg (uB HB)));have GE494:=GW494;replace HB:=Aside0.mk (Qb (uB HB) hb);clear hb hbox hg;have hcz4_0:=bC BK494;have hfz4_0:=Qf BK494.out 0))
 go_loopg [10] k (fun kq v10 w'=> ∃ (x10_1:Int),v10= .int .i64 x10_1∧Aside0 (Qby.l0 kq a1 l0_0 (l0_0.length:Int) x10_1=some r)∧Aside0 (kq≤k)∧Aside0 (w'.heap[gb494]? =some (.cells #[(.slice A0_0 l0_0.length c0_0)] 26 (0,0)))∧Aside0 (Below w.heap.size w w'))
 case atStart=>exact ⟨(0),(by first|rfl|(simp;done)|(simp [*];done)),H',⟨Nat.le_refl _⟩,⟨uK BK494⟩,⟨uB HB⟩⟩
 case round=>
  clear H'
  try clear c2
  try clear p2
  try clear hcz4_0
  try clear hfz4_0
  obtain ⟨x10_1,rfl,HA,HK1,BK494,HB⟩:=hrel;cases gk with
  |zero=>exact absurd HA.out (by simp [Qby.l0])
  |succ k1=>
   have H:=HA.out;clear HA;simp only [Qby.l0] at H
   by_cases c5:x10_1<(l0_0.length:Int)
   ·
    rw [if_pos c5] at H;have c5b0:=decide_eq_true c5;clear c5
    by_cases c6:0≤x10_1
    ·
     rw [if_pos c6] at H;have c6b0:=decide_eq_true c6;clear c6
     by_cases c7:x10_1<(l0_0.length:Int)
     ·
      rw [if_pos c7] at H;have c7b0:=decide_eq_true c7;clear c7;obtain ⟨t496,A8,H⟩:=bs H;(try dsimp only at H)
      by_cases c9:t496=true
      ·
       subst c9;rw [if_pos rfl] at H
       by_cases c10:(Go.bits .andNot .i64 (rd l0_0 x10_1) a1)=0
       ·
        rw [if_pos c10] at H;have c10b0:((Go.bits .andNot .i64 (rd l0_0 x10_1) a1)==0)=true:=beq_iff_eq.mpr c10;have c10b1:((Go.bits .andNot .i64 (rd l0_0 x10_1) a1) !=0)=false:=bne_eq_false_iff_eq.mpr c10;clear c10;have H':=Aside0.mk H;clear H;have p495:0≤(x10_1:Int):=of_decide_eq_true (by first|(with_reducible assumption)|assumption);have q495:x10_1<(l0_0.length:Int):=of_decide_eq_true (by first|(with_reducible assumption)|assumption);obtain ⟨ad495,e495,hx495_0⟩:=Kd.at_int HR0_0.out x10_1 p495 q495;cases e495;replace hx495_0:=(HB.out.cell (World.block_lt_of_cell? w _ hx495_0)).trans hx495_0;replace p495:=eq_true p495;replace q495:=eq_true q495;go_wp2_with (first|(refine gA (some 17) Tryz.func253 #[.int .i64 a1, .int .i64 x10_1] ?_;(with_reducible refine (Qc0.calls a1 x10_1 true _ A8.out).mono ?_);rintro e w' ⟨rfl,⟨nd,rfl⟩⟩;refine ⟨_,rfl,?_⟩));go_roundg k1
        case measure=>have:=HK1.out;omega
        case rel=>exact ⟨(wrap64 (x10_1+1)),(by first|rfl|(simp;done)|(simp [*];done)),H',⟨by have:=HK1.out;omega⟩,⟨uK BK494⟩,⟨uB HB⟩⟩
       ·
        rw [if_neg c10] at H;have c10b0:((Go.bits .andNot .i64 (rd l0_0 x10_1) a1)==0)=false:=beq_eq_false_iff_ne.mpr c10;have c10b1:((Go.bits .andNot .i64 (rd l0_0 x10_1) a1) !=0)=true:=bne_iff_ne.mpr c10;obtain rfl:=Option.some.inj H;have p495:0≤(x10_1:Int):=of_decide_eq_true (by first|(with_reducible assumption)|assumption);have q495:x10_1<(l0_0.length:Int):=of_decide_eq_true (by first|(with_reducible assumption)|assumption);obtain ⟨ad495,e495,hx495_0⟩:=Kd.at_int HR0_0.out x10_1 p495 q495;cases e495;replace hx495_0:=(HB.out.cell (World.block_lt_of_cell? w _ hx495_0)).trans hx495_0;replace p495:=eq_true p495;replace q495:=eq_true q495;go_wp2_with (first|(refine gA (some 17) Tryz.func253 #[.int .i64 a1, .int .i64 x10_1] ?_;(with_reducible refine (Qc0.calls a1 x10_1 true _ A8.out).mono ?_);rintro e w' ⟨rfl,⟨nd,rfl⟩⟩;refine ⟨_,rfl,?_⟩))
        go_ret
        exact ⟨by first|rfl|(simp [Qd,Qe] <;>rfl)|(simp [*,Qd,Qe] <;>rfl),uB HB⟩
      ·
       replace c9:=Bool.eq_false_iff.mpr c9;subst c9;rw [if_neg (show ¬ (false=true) by decide)] at H;have H':=Aside0.mk H;clear H;have p495:0≤(x10_1:Int):=of_decide_eq_true (by first|(with_reducible assumption)|assumption);have q495:x10_1<(l0_0.length:Int):=of_decide_eq_true (by first|(with_reducible assumption)|assumption);obtain ⟨ad495,e495,hx495_0⟩:=Kd.at_int HR0_0.out x10_1 p495 q495;cases e495;replace hx495_0:=(HB.out.cell (World.block_lt_of_cell? w _ hx495_0)).trans hx495_0;replace p495:=eq_true p495;replace q495:=eq_true q495;go_wp2_with (first|(refine gA (some 17) Tryz.func253 #[.int .i64 a1, .int .i64 x10_1] ?_;(with_reducible refine (Qc0.calls a1 x10_1 false _ A8.out).mono ?_);rintro e w' ⟨rfl,⟨nd,rfl⟩⟩;refine ⟨_,rfl,?_⟩));go_roundg k1
       case measure=>have:=HK1.out;omega
       case rel=>exact ⟨(wrap64 (x10_1+1)),(by first|rfl|(simp;done)|(simp [*];done)),H',⟨by have:=HK1.out;omega⟩,⟨uK BK494⟩,⟨uB HB⟩⟩
     ·
      rw [if_neg c7] at H;exact absurd H (by simp)
    ·
     rw [if_neg c6] at H;exact absurd H (by simp)
   ·
    rw [if_neg c5] at H;have c5b0:=decide_eq_false c5;clear c5;obtain rfl:=Option.some.inj H;go_wp2
    go_ret
    exact ⟨by first|rfl|(simp [Qd,Qe] <;>rfl)|(simp [*,Qd,Qe] <;>rfl),uB HB⟩
def Qcl.f (k : Nat) (l0_0 : List Int) (a1 : Int) : Option (Bool) := (Qc3.f k l0_0).bind fun t498 => (if t498 = true then ((Qep.f l0_0 a1).bind fun t499 => (if t499 = true then ((Qby.f k l0_0 a1).bind fun t500 => (some t500)) else (some false))) else (some false))
theorem Qcl.mono : ∀ a0 a1 k, LeO (Qcl.f k a0 a1) (Qcl.f (k + 1) a0 a1) := by
 intro a0 a1 k;unfold Qcl.f
 repeat' (with_reducible first|apply Qby.mono|apply Qc3.mono|exact LeO.refl _|exact LeO.none _|refine LeO.ite ?_ ?_|refine LeO.bind ?_ (fun _=> ?_))
set_option maxHeartbeats 8000000 in
set_option maxRecDepth 100000 in
theorem Qcl.calls (k : Nat) (A0_0 : Option Addr) (c0_0 : Nat) (l0_0 : List Int) (a1 : Int) (r : Bool) (w : World) (hr0_0 : Kd.C (Kd.int .i64) w A0_0 l0_0.length l0_0) (hc0_0 : l0_0.length ≤ c0_0) (h : Qcl.f k l0_0 a1 = some r) :
 Calls Tryz.prog 152 #[.agg #[.slice A0_0 l0_0.length c0_0], .int .i64 a1] w fun e w'=>e= .returned (.bool r)∧Below w.heap.size w w':=by
 have hu26:=Tryz.underlying26;have HR0_0:=Aside0.mk hr0_0;have HC0_0:=Aside0.mk hc0_0;clear hr0_0 hc0_0;have HB:=Aside0.mk (Below.refl w.heap.size w);have H:((Qc3.f k l0_0).bind fun t498=>(if t498=true then ((Qep.f l0_0 a1).bind fun t499=>(if t499=true then ((Qby.f k l0_0 a1).bind fun t500=>(some t500)) else (some false))) else (some false)))=some r:=h;clear h;obtain ⟨t498,A3,H⟩:=bs H;(try dsimp only at H)
 by_cases c4:t498=true
 ·
  subst c4;rw [if_pos rfl] at H;obtain ⟨t499,A5,H⟩:=bs H;(try dsimp only at H)
  by_cases c6:t499=true
  ·
   subst c6;rw [if_pos rfl] at H;obtain ⟨t500,A7,H⟩:=bs H;(try dsimp only at H)
   obtain rfl:=Option.some.inj H;go_enter Tryz.func152,Tryz.ntmps152;go_wp2_with (first|(refine bE (N:=2) (cs:= #[.slice A0_0 l0_0.length c0_0]) (t:=26) ?_;intro gb497 hg w8 hbox hb;have BK497:=Aside0.mk (hbox);have GW497:=Aside0.mk ((gV hg (uB HB)));have GE497:=GW497;replace HB:=Aside0.mk (Qb (uB HB) hb);clear hb hbox hg;have hcz9_0:=bC BK497;have hfz9_0:=Qf BK497.out 0)|(refine gA (some 6) Tryz.func165 #[.agg #[.slice A0_0 l0_0.length c0_0]] ?_;(with_reducible refine (Qc3.calls k _ _ l0_0 true _ (uD HR0_0 HB) HC0_0.out A3.out).mono ?_);rintro e w10 ⟨rfl,hb⟩;refine ⟨_,rfl,?_⟩;replace BK497:=Aside0.mk (Qc (uK BK497) hb);replace HB:=Aside0.mk (Qb (uB HB) hb);(try clear hb);have hcz11_0:=bC BK497;have hfz11_0:=Qf BK497.out 0)|(go_at_call 199;(with_reducible refine (Qep.calls _ _ l0_0 a1 true _ (uD HR0_0 HB) HC0_0.out A5.out).mono ?_);rintro e w12 ⟨rfl,hb⟩;replace BK497:=Aside0.mk (Qc (uK BK497) hb);replace HB:=Aside0.mk (Qb (uB HB) hb);(try clear hb);have hcz13_0:=bC BK497;have hfz13_0:=Qf BK497.out 0)|(go_at_call 278;(with_reducible refine (Qby.calls k _ _ l0_0 a1 t500 _ (uD HR0_0 HB) HC0_0.out A7.out).mono ?_);rintro e w14 ⟨rfl,hb⟩;replace BK497:=Aside0.mk (Qc (uK BK497) hb);replace HB:=Aside0.mk (Qb (uB HB) hb);(try clear hb)))
   go_ret
   exact ⟨by first|rfl|(simp [Qd,Qe] <;>rfl)|(simp [*,Qd,Qe] <;>rfl),uB HB⟩
  ·
   replace c6:=Bool.eq_false_iff.mpr c6;subst c6;rw [if_neg (show ¬ (false=true) by decide)] at H;obtain rfl:=Option.some.inj H;go_enter Tryz.func152,Tryz.ntmps152;go_wp2_with (first|(refine bE (N:=2) (cs:= #[.slice A0_0 l0_0.length c0_0]) (t:=26) ?_;intro gb497 hg w15 hbox hb;have BK497:=Aside0.mk (hbox);have GW497:=Aside0.mk ((gV hg (uB HB)));have GE497:=GW497;replace HB:=Aside0.mk (Qb (uB HB) hb);clear hb hbox hg;have hcz16_0:=bC BK497;have hfz16_0:=Qf BK497.out 0)|(refine gA (some 6) Tryz.func165 #[.agg #[.slice A0_0 l0_0.length c0_0]] ?_;(with_reducible refine (Qc3.calls k _ _ l0_0 true _ (uD HR0_0 HB) HC0_0.out A3.out).mono ?_);rintro e w17 ⟨rfl,hb⟩;refine ⟨_,rfl,?_⟩;replace BK497:=Aside0.mk (Qc (uK BK497) hb);replace HB:=Aside0.mk (Qb (uB HB) hb);(try clear hb);have hcz18_0:=bC BK497;have hfz18_0:=Qf BK497.out 0)|(go_at_call 199;(with_reducible refine (Qep.calls _ _ l0_0 a1 false _ (uD HR0_0 HB) HC0_0.out A5.out).mono ?_);rintro e w19 ⟨rfl,hb⟩;replace BK497:=Aside0.mk (Qc (uK BK497) hb);replace HB:=Aside0.mk (Qb (uB HB) hb);(try clear hb)))
   go_ret
   exact ⟨by first|rfl|(simp [Qd,Qe] <;>rfl)|(simp [*,Qd,Qe] <;>rfl),uB HB⟩
 ·
  replace c4:=Bool.eq_false_iff.mpr c4;subst c4;rw [if_neg (show ¬ (false=true) by decide)] at H;obtain rfl:=Option.some.inj H;go_enter Tryz.func152,Tryz.ntmps152;go_wp2_with (first|(refine bE (N:=2) (cs:= #[.slice A0_0 l0_0.length c0_0]) (t:=26) ?_;intro gb497 hg w20 hbox hb;have BK497:=Aside0.mk (hbox);have GW497:=Aside0.mk ((gV hg (uB HB)));have GE497:=GW497;replace HB:=Aside0.mk (Qb (uB HB) hb);clear hb hbox hg;have hcz21_0:=bC BK497;have hfz21_0:=Qf BK497.out 0)|(refine gA (some 6) Tryz.func165 #[.agg #[.slice A0_0 l0_0.length c0_0]] ?_;(with_reducible refine (Qc3.calls k _ _ l0_0 false _ (uD HR0_0 HB) HC0_0.out A3.out).mono ?_);rintro e w22 ⟨rfl,hb⟩;refine ⟨_,rfl,?_⟩;replace BK497:=Aside0.mk (Qc (uK BK497) hb);replace HB:=Aside0.mk (Qb (uB HB) hb);(try clear hb)))
  go_ret
  exact ⟨by first|rfl|(simp [Qd,Qe] <;>rfl)|(simp [*,Qd,Qe] <;>rfl),uB HB⟩
mutual
def Q0.l0 : Nat → List Int → List Int → Int → Int → Option (List Int)
 |0,_,_,_,_=>none
 |k+1,x4,x9,x10,x11=>if x11<x10 then (if 0≤x11 then (if x11<(x9.length:Int) then (Q0.l1 k x4 x11 (rd x9 x11) x9 x10 x11) else (none)) else (none)) else (some x4)
def Q0.l1 : Nat → List Int → Int → Int → List Int → Int → Int → Option (List Int)
 |0,_,_,_,_,_,_=>none
 |k+1,x4,x5,x6,x9,x10,x11=>if (x4.length:Int)≤x6 then (if x4.length<17592186044416 then (Q0.l1 k (x4++ [0]) x5 x6 x9 x10 x11) else (none)) else (if 0≤x6 then (if x6<(x4.length:Int) then (if 0≤x5 then (Q0.l0 k (x4.set (x6:Int).toNat (Go.bits .or .i64 (rd x4 x6) (shl .i64 1 x5))) x9 x10 (wrap64 (x11+1))) else (none)) else (none)) else (none))
end
def Q0.f (k : Nat) (l0_0 : List Int) : Option (List Int) := (Qba.f k l0_0).bind fun t502 => (Q0.l0 k ([] : List Int) t502 (t502.length : Int) 0)
theorem Q0.mono_l : ∀ k, (∀ y0 y1 y2 y3, LeO (Q0.l0 k y0 y1 y2 y3) (Q0.l0 (k + 1) y0 y1 y2 y3)) ∧ (∀ y0 y1 y2 y3 y4 y5, LeO (Q0.l1 k y0 y1 y2 y3 y4 y5) (Q0.l1 (k + 1) y0 y1 y2 y3 y4 y5))
 |0=>⟨fun _ _ _ _ r h=>by simp [Q0.l0] at h,fun _ _ _ _ _ _ r h=>by simp [Q0.l1] at h⟩
 |k+1=>by
  obtain ⟨ih0,ih1⟩:=Q0.mono_l k;refine ⟨?_,?_⟩
  all_goals
   intros
   first|unfold Q0.l0|unfold Q0.l1
   repeat' (with_reducible first|apply ih0|apply ih1|apply Qba.mono|exact LeO.refl _|exact LeO.none _|refine LeO.ite ?_ ?_|refine LeO.bind ?_ (fun _=> ?_))
theorem Q0.mono : ∀ a0 k, LeO (Q0.f k a0) (Q0.f (k + 1) a0) := by
 intro a0 k;obtain ⟨ih0,ih1⟩:=Q0.mono_l k;unfold Q0.f
 repeat' (with_reducible first|apply ih0|apply ih1|apply Qba.mono|exact LeO.refl _|exact LeO.none _|refine LeO.ite ?_ ?_|refine LeO.bind ?_ (fun _=> ?_))
def Q0.T8 : Bool × List (List Nat × List Nat) := (true, [([], []), ([], []), ([0, 1], [0, 1]), ([2], [2]), ([], []), ([4], [4]), ([3, 5], [3, 5]), ([0, 1, 0, 1, 2, 3, 4, 5, 6], [0, 1]), ([7, 6, 0, 1, 2, 3, 4, 5, 6], [6, 7])])
def Q0.B8 : List Nat := [0, 0, 3, 7, 0, 16, 63, 127, 255]
theorem Q0.tab8 : rtab .any (Qfj Tryz.f155 8) = Q0.T8 := by kernel_rfl
theorem Q0.bits8 : Qea Q0.T8.2 Q0.B8 = true := by kernel_rfl
set_option maxHeartbeats 8000000 in
set_option maxRecDepth 100000 in
theorem Q0.calls (k : Nat) (A0_0 : Option Addr) (c0_0 : Nat) (l0_0 : List Int) (r : List Int) (w : World) (hr0_0 : Kd.C (Kd.int .i64) w A0_0 l0_0.length l0_0) (hc0_0 : l0_0.length ≤ c0_0) (h : Q0.f k l0_0 = some r) :
 Calls Tryz.prog 155 #[.agg #[.slice A0_0 l0_0.length c0_0]] w fun e w'=> ∃ v0_:Value,e= .returned (v0_)∧Kd.R (Kd.int .i64) 3 w' w.heap.size (fun _=>True) v0_ r∧Below w.heap.size w w':=by
 have hu26:=Tryz.underlying26;have HR0_0:=Aside0.mk hr0_0;have HC0_0:=Aside0.mk hc0_0;clear hr0_0 hc0_0;have HB:=Aside0.mk (Below.refl w.heap.size w);have H:((Qba.f k l0_0).bind fun t502=>(Q0.l0 k ([] :List Int) t502 (t502.length:Int) 0))=some r:=h;clear h;obtain ⟨t502,A2,H⟩:=bs H;(try dsimp only at H)
 have H':=Aside0.mk H;clear H;go_enter Tryz.func155,Tryz.ntmps155;go_wp2_with (first|(refine bE (N:=1) (cs:= #[.slice A0_0 l0_0.length c0_0]) (t:=26) ?_;intro gb501 hg w3 hbox hb;have BK501:=Aside0.mk (hbox);have GW501:=Aside0.mk ((gV hg (uB HB)));have GE501:=GW501;replace HB:=Aside0.mk (Qb (uB HB) hb);clear hb hbox hg;have hcz4_0:=bC BK501;have hfz4_0:=Qf BK501.out 0)|(refine gA (some 8) Tryz.func280 #[.agg #[.slice A0_0 l0_0.length c0_0]] ?_;(with_reducible refine (Qba.calls k _ _ l0_0 t502 _ (uD HR0_0 HB) HC0_0.out A2.out).mono ?_);rintro e w5 ⟨v503,rfl,ho0,hb⟩;refine ⟨_,rfl,?_⟩;have HO504:=Aside0.mk (Kd.R_lower ho0 (Qj (uB HB)));replace BK501:=Aside0.mk (Qc (uK BK501) hb);replace HB:=Aside0.mk (Qb (uB HB) hb);(try clear hb ho0);obtain ⟨Ao6,co6,eo6⟩:=Kd.R_slice HO504.out;subst eo6))
 go_loopg [4,11] k (fun kq v4 v11 w'=> ∃ (x4_1:List Int) (x9_1:List Int) (x11_1:Int),v11= .int .i64 x11_1∧Aside0 (Q0.l0 kq x4_1 x9_1 (t502.length:Int) x11_1=some r)∧Aside0 (kq≤k)∧Aside0 (Kd.R (Kd.int .i64) 3 w' w.heap.size (fun k_=>some k_≠((.slice Ao6 t502.length co6):Value).ownBlock) v4 x4_1)∧Aside0 (Kd.R (Kd.int .i64) 3 w' w.heap.size (fun k_=>some k_≠(v4:Value).ownBlock) (.slice Ao6 t502.length co6) x9_1)∧Aside0 (w'.heap[gb501]? =some (.cells #[(.slice A0_0 l0_0.length c0_0)] 26 (0,0)))∧Aside0 (Below w.heap.size w w'))
 case atStart=>exact ⟨(([] :List Int)),(t502),(0),(by first|rfl|(simp;done)|(simp [*];done)),H',⟨Nat.le_refl _⟩,⟨by first|exact Kd.R_nil _ _ _ _ _|exact Kd.N_nil _ _ _ _ _|exact Kd.V_nil _ _ _ _ _|exact Kd.Q_nil _ _ _ _ _|exact Kd.S_nil _ _ _ _ _⟩,⟨by (with_reducible repeat (first|apply Kd.R_alloc|apply Kd.R_drewN|apply Kd.R_drew));exact Kd.R_mono HO504.out (fun _ hk=>(by simp [Value.ownBlock]))⟩,⟨uK BK501⟩,⟨uB HB⟩⟩
 case round=>
  clear H'
  try clear c1
  try clear c2
  try clear p2
  try clear hcz4_0
  try clear hfz4_0
  obtain ⟨x4_1,x9_1,x11_1,rfl,HA,HK1,HO_4,HO_9,BK501,HB⟩:=hrel;have hl9_1:=(Kd.R_reads' HO_9.out).1;rw [hl9_1] at HO_9
  (try simp only [hl9_1])
  (try simp only [hl9_1] at BK501)
  (try simp only [hl9_1] at HO_4)
  cases gk with
  |zero=>exact absurd HA.out (by simp [Q0.l0])
  |succ k1=>
   have H:=HA.out;clear HA;simp only [Q0.l0] at H
   by_cases c7:x11_1<(t502.length:Int)
   ·
    rw [if_pos c7] at H;have c7b0:=decide_eq_true c7
    (try simp only [hl9_1] at c7b0)
    clear c7
    by_cases c8:0≤x11_1
    ·
     rw [if_pos c8] at H;have c8b0:=decide_eq_true c8;clear c8
     by_cases c9:x11_1<(x9_1.length:Int)
     ·
      rw [if_pos c9] at H;have c9b0:=decide_eq_true c9;clear c9;have H':=Aside0.mk H;clear H;have p505:0≤(x11_1:Int):=of_decide_eq_true (by first|(with_reducible assumption)|assumption);have q505:x11_1<(x9_1.length:Int):=of_decide_eq_true (by first|(with_reducible assumption)|assumption);obtain ⟨ad505,e505,hx505_0⟩:=Kd.at_int (Kd.R_reads' HO_9.out).2.2 x11_1 p505 q505;cases e505;replace p505:=eq_true p505;replace q505:=eq_true q505;go_wp2
      go_loopg [4] k1 (fun kq v4 w'=> ∃ (x4_2:List Int),Aside0 (Q0.l1 kq x4_2 x11_1 (rd x9_1 x11_1) x9_1 (t502.length:Int) x11_1=some r)∧Aside0 (kq≤k1)∧Aside0 (Kd.R (Kd.int .i64) 3 w' w.heap.size (fun k_=>some k_≠((.slice (some ad505) x9_1.length co6):Value).ownBlock) v4 x4_2)∧Aside0 (Kd.R (Kd.int .i64) 3 w' w.heap.size (fun k_=>some k_≠(v4:Value).ownBlock) (.slice (some ad505) x9_1.length co6) x9_1)∧Aside0 (w'.heap[gb501]? =some (.cells #[(.slice A0_0 l0_0.length c0_0)] 26 (0,0)))∧Aside0 (Below w.heap.size w w'))
      case atStart=>exact ⟨(x4_1),H',⟨Nat.le_refl _⟩,⟨by (try simp only [hl9_1]);(with_reducible repeat (first|apply Kd.R_alloc|apply Kd.R_drewN|apply Kd.R_drew));exact HO_4.out⟩,⟨by (try simp only [hl9_1]);(with_reducible repeat (first|apply Kd.R_alloc|apply Kd.R_drewN|apply Kd.R_drew));exact HO_9.out⟩,⟨by (try simp only [hl9_1]);(with_reducible repeat (first|refine Qn ?_ _|refine Ql ?_|refine Qm ?_ _));exact BK501.out⟩,⟨uB HB⟩⟩
      case round=>
       clear H'
       try clear c1
       try clear c2
       try clear p2
       try clear p5
       try clear q5
       try clear hx5
       try clear c7
       try clear c7b0
       try clear c8
       try clear c8b0
       try clear c9
       try clear c9b0
       try clear hcz4_0
       try clear hfz4_0
       try clear hx505_0
       try clear p2
       try clear p505
       try clear q505
       obtain ⟨x4_2,HA,HK2,HO_4,HO_9,BK501,HB⟩:=hrel;cases gk with
       |zero=>exact absurd HA.out (by simp [Q0.l1])
       |succ k2=>
        have H:=HA.out;clear HA;simp only [Q0.l1] at H
        by_cases c10:(x4_2.length:Int)≤(rd x9_1 x11_1)
        ·
         rw [if_pos c10] at H;have c10b0:=decide_eq_true c10;clear c10
         by_cases c11:x4_2.length<17592186044416
         ·
          rw [if_pos c11] at H;have LMc11:=Aside0.mk c11;clear c11;obtain ⟨y506,hy506⟩: ∃ y_:List Int,y_=(x4_2++ [0]):=⟨_,rfl⟩
          replace H:(Q0.l1 k2 y506 x11_1 (rd x9_1 x11_1) x9_1 (t502.length:Int) x11_1)=some r:=by first|(rw [hy506];with_reducible exact H)|(have H2_:=(Option.bind_some _ _).symm.trans H;rw [hy506];with_reducible exact H2_)|(have H2_:=(Option.bind_some _ _).symm.trans H;with_reducible exact H2_)|with_reducible exact H|(rw [hy506];exact H)|exact H
          have Ny506:=Aside0.mk hy506;clear hy506;have H':=Aside0.mk H;clear H;obtain ⟨Ao12,co12,eo12⟩:=Kd.R_slice HO_4.out;subst eo12;go_wp2_with (first|((with_reducible refine Qcj (b:= .append) (xs:= #[.tmp 20, .tmp 21]) rfl ?_);at_builtin;refine Kd.R_append (Kd.int .i64) (w0:=w) w.heap.size rfl (.tmp 20) (.tmp 21) 24 3 (.int .i64 0) 8 rfl Tryz.underlying24 Qeo rfl (by decide) (by omega) (.slice Ao12 x4_2.length co12) x4_2 0 [.int .i64 0] (fun k_=>some k_≠(.slice (some ad505) x9_1.length co6:Value).ownBlock) (fun _=>False) rfl rfl ?aP (fun _ hk=>hk.elim) ?aF ?aO ?aB ?aS ?aL ?_;(case aP=>exact rfl);(case aB=>exact (uB HB));(case aF=>exact (fun k_ hk=>Kd.fresh' (Kd.R_lt (uR HO_9)) k_ hk));(case aO=>exact (uR HO_4));(case aS=>exact (Qj (uB HB)));(case aL=>have:=LMc11.out;omega);intro v507 w13 ho hb hg hat;rw [←Ny506.out] at ho;replace HO_9:=Aside0.mk (Kd.R_after (ok:=(fun _=>True)) (by (with_reducible repeat (first|apply Kd.R_alloc|apply Kd.R_drewN|apply Kd.R_drew));exact Kd.R_mono HO_9.out (fun _ hk=>⟨trivial,hk⟩)) hg hat);replace BK501:=Aside0.mk (Qdi (uK BK501) hg (Kd.R_ne HO_4.out BK501.out (by decide)));replace HB:=Aside0.mk (hb);have HO508:=Aside0.mk (ho);clear HO_4;clear ho hb hg hat));go_roundg k2
          case measure=>have:=HK1.out;have:=HK2.out;omega
          case rel=>exact ⟨(y506),H',⟨by have:=HK1.out;have:=HK2.out;omega⟩,⟨by (try simp only [hl9_1]);(with_reducible repeat (first|apply Kd.R_alloc|apply Kd.R_drewN|apply Kd.R_drew));exact HO508.out⟩,⟨by (try simp only [hl9_1]);(with_reducible repeat (first|apply Kd.R_alloc|apply Kd.R_drewN|apply Kd.R_drew));exact Kd.R_mono HO_9.out (fun _ hk=>hk.2)⟩,⟨by (try simp only [hl9_1]);(with_reducible repeat (first|refine Qn ?_ _|refine Ql ?_|refine Qm ?_ _));exact BK501.out⟩,⟨uB HB⟩⟩
         ·
          rw [if_neg c11] at H;exact absurd H (by simp)
        ·
         rw [if_neg c10] at H;have c10b0:=decide_eq_false c10;clear c10
         by_cases c14:0≤(rd x9_1 x11_1)
         ·
          rw [if_pos c14] at H;have c14b0:=decide_eq_true c14;clear c14
          by_cases c15:(rd x9_1 x11_1)<(x4_2.length:Int)
          ·
           rw [if_pos c15] at H;have c15b0:=decide_eq_true c15;clear c15
           by_cases c16:0≤x11_1
           ·
            rw [if_pos c16] at H;have c16b0:=eq_true c16;have c16b1:=decide_eq_true c16;clear c16;obtain ⟨ji17,hji17⟩: ∃ j_:Int,(shl .i64 1 x11_1)=j_:=⟨_,rfl⟩
            replace H:(Q0.l0 k2 (x4_2.set ((rd x9_1 x11_1):Int).toNat (Go.bits .or .i64 (rd x4_2 (rd x9_1 x11_1)) (ji17))) x9_1 (t502.length:Int) (wrap64 (x11_1+1)))=some r:=by first|(rw [hji17] at H;exact H)|(simp only [hji17] at H ⊢;exact H)
            have hji17_:(IntKind.i64.wrap (1*2 ^ min x11_1.toNat 64))=ji17:=hji17;have hji17z:x11_1≤64→(IntKind.i64.wrap (1*2 ^ x11_1.toNat))=ji17:=Qef hji17;have hji17u:(IntKind.i64.wrap (2 ^ min x11_1.toNat 64))=ji17:=by have h_:=hji17_;rw [Int.one_mul] at h_;exact h_
            have hji17v:x11_1≤64→(IntKind.i64.wrap (2 ^ x11_1.toNat))=ji17:=fun hle_=>by have h_:=hji17z hle_;rw [Int.one_mul] at h_;exact h_
            have hji17y:(wrap64 (1*2 ^ min x11_1.toNat 64))=ji17:=(Qcq _).symm.trans hji17_;have hji17x:x11_1≤64→(wrap64 (1*2 ^ x11_1.toNat))=ji17:=fun h_=>(Qcq _).symm.trans (hji17z h_)
            obtain ⟨y510,hy510⟩: ∃ y_:List Int,y_=(x4_2.set ((rd x9_1 x11_1):Int).toNat (Go.bits .or .i64 (rd x4_2 (rd x9_1 x11_1)) (ji17))):=⟨_,rfl⟩
            replace H:(Q0.l0 k2 y510 x9_1 (t502.length:Int) (wrap64 (x11_1+1)))=some r:=by first|(rw [hy510];with_reducible exact H)|(have H2_:=(Option.bind_some _ _).symm.trans H;rw [hy510];with_reducible exact H2_)|(have H2_:=(Option.bind_some _ _).symm.trans H;with_reducible exact H2_)|with_reducible exact H|(rw [hy510];exact H)|exact H
            have Ny510:=Aside0.mk hy510;clear hy510;have H':=Aside0.mk H;clear H;obtain ⟨Ao19,co19,eo19⟩:=Kd.R_slice HO_4.out;subst eo19
            try go_wp2
            replace HO_4:=Aside0.mk (Kd.R_drew HO_4.out);replace HO_9:=Aside0.mk (Kd.R_drew HO_9.out);replace BK501:=Aside0.mk (Ql BK501.out);replace HB:=Aside0.mk (Qo HB.out);have p509:0≤((rd x9_1 x11_1):Int):=of_decide_eq_true (by first|(with_reducible assumption)|assumption);have q509:(rd x9_1 x11_1)<(x4_2.length:Int):=of_decide_eq_true (by first|(with_reducible assumption)|assumption);obtain ⟨ad509,e509,hx509_0⟩:=Kd.at_int (Kd.R_reads' HO_4.out).2.2 (rd x9_1 x11_1) p509 q509;cases e509;replace p509:=eq_true p509;replace q509:=eq_true q509;have p18:0≤((rd x9_1 x11_1):Int):=of_decide_eq_true (by first|(with_reducible assumption)|assumption);have q18:((rd x9_1 x11_1):Int)<((x4_2.length:Int):Int):=of_decide_eq_true (by first|(with_reducible assumption)|assumption);obtain ⟨go18,co18,eo18,gb18,gl18,cl18,HG18⟩:=Kd.R_form HO_4.out (by omega)
            (first|cases eo18|(injection eo18 with ea_ en_ ec_;(first|subst ea_|(injection ea_ with ea_;subst ea_));subst ec_;clear en_))
            have GB18:=Aside0.mk gb18;have GG18:=Aside0.mk HG18;clear gb18 gl18 HG18
            (first|simp only [Qer] at hx509_0|skip)
            obtain ⟨hx18_0,hf18_0⟩:=Kd.R_celln 0 HO_4.out ((rd x9_1 x11_1):Int) p18 q18;replace p18:=eq_true p18;replace q18:=eq_true q18;have HP21:=Kd.R_putn HO_4.out ((rd x9_1 x11_1):Int) (Go.bits .or .i64 (rd x4_2 (rd x9_1 x11_1)) (ji17));rw [←Ny510.out] at HP21;have HQ21:=Aside0.mk HP21;clear HP21;refine sU (n:=9) (S:=fun w'=>w'.cell? ⟨go18,((rd x9_1 x11_1)).toNat,none⟩=some (.int .i64 (rd x4_2 (rd x9_1 x11_1)))) (ds:= [8]) (hx509_0) (fun hHeld=> ?_);refine Qeb Q0.tab8 Q0.bits8 (fun HT_ HW_=> ?_);generalize wr.drew=w20 at HO_4 HO_9 BK501 HB GG18 HQ21 hf18_0 hx18_0 hx509_0 hHeld ⊢;refine pU 0 23 ?_;refine pU 1 24 ?_;refine pU 2 25 ?_;refine pU 4 27 ?_;refine pU 5 28 ?_;refine tU 3 26 hHeld ?_;refine pU 6 29 ?_;refine pU 7 30 ?_;refine lU 8 none fun K hK=> ?_
            refine sK ?_;refine hK.out _ _ ?_;clear hK K;refine dU ?_
            try go_wp2
            (try simp only [←hl9_1])
            go_roundg k2
            case measure=>have:=HK1.out;have:=HK2.out;omega
            case rel=>exact ⟨(y510),(x9_1),(wrap64 (x11_1+1)),(by first|rfl|(simp;done)|(simp [*];done)),H',⟨by have:=HK1.out;have:=HK2.out;omega⟩,⟨by (try simp only [hl9_1]);(with_reducible repeat (first|apply Kd.R_alloc|apply Kd.R_drewN|apply Kd.R_drew));exact HQ21.out⟩,⟨by (try simp only [hl9_1]);(with_reducible repeat (first|apply Kd.R_alloc|apply Kd.R_drewN|apply Kd.R_drew));exact Kd.R_mono (Kd.R_far (p:=⟨go18,((rd x9_1 x11_1):Int).toNat,none⟩) (Kd.R_mono HO_9.out (fun k_ hk=>(⟨hk,fun e_=>hk (by rw [e_];rfl)⟩:_∧k_≠go18))) (fun _ hk=>hk.2) (.int .i64 (Go.bits .or .i64 (rd x4_2 (rd x9_1 x11_1)) (ji17)))) (fun _ hk=>hk.1)⟩,⟨by (try simp only [hl9_1]);(with_reducible repeat (first|refine Qn ?_ _|refine Ql ?_|refine Qm ?_ _));refine Qei ?_ (by have h_:=Kd.R_ne HO_4.out BK501.out (by decide);intro e_;exact h_ (by rw [e_];rfl)) _;(with_reducible repeat (first|refine Qn ?_ _|refine Ql ?_|refine Qm ?_ _));exact BK501.out⟩,⟨by repeat (first|(with_reducible first|exact HB.out|apply Qk|apply Qi|apply Qo|refine Qx ?_ GB18.out|refine Qx ?_ GE501.out)|exact HB.out)⟩⟩
           ·
            rw [if_neg c16] at H;exact absurd H (by simp)
          ·
           rw [if_neg c15] at H;exact absurd H (by simp)
         ·
          rw [if_neg c14] at H;exact absurd H (by simp)
     ·
      rw [if_neg c9] at H;exact absurd H (by simp)
    ·
     rw [if_neg c8] at H;exact absurd H (by simp)
   ·
    rw [if_neg c7] at H;have c7b0:=decide_eq_false c7
    (try simp only [hl9_1] at c7b0)
    clear c7;obtain rfl:=Option.some.inj H;go_wp2
    go_ret
    exact ⟨_,by first|rfl|(simp [Qd,Qe] <;>rfl)|(simp [*,Qd,Qe] <;>rfl),by (with_reducible repeat (first|apply Kd.R_alloc|apply Kd.R_drewN|apply Kd.R_drew));exact Kd.R_mono HO_4.out (fun _ hk=>trivial),uB HB⟩
def Qez.f (k : Nat) (l0_0 : List Int) (a1 : Int) (a2 : Int) : Option (Int) := if 0 ≤ a2 then ((Qby.f k l0_0 (Go.bits .xor .i64 a1 (shl .i64 1 a2))).bind fun t512 => (if t512 = true then (some (Go.bits .xor .i64 a1 (shl .i64 1 a2))) else (some a1))) else (none)
theorem Qez.mono : ∀ a0 a1 a2 k, LeO (Qez.f k a0 a1 a2) (Qez.f (k + 1) a0 a1 a2) := by
 intro a0 a1 a2 k;unfold Qez.f
 repeat' (with_reducible first|apply Qby.mono|exact LeO.refl _|exact LeO.none _|refine LeO.ite ?_ ?_|refine LeO.bind ?_ (fun _=> ?_))
set_option maxHeartbeats 8000000 in
set_option maxRecDepth 100000 in
theorem Qez.calls (k : Nat) (A0_0 : Option Addr) (c0_0 : Nat) (l0_0 : List Int) (a1 : Int) (a2 : Int) (r : Int) (w : World) (hr0_0 : Kd.C (Kd.int .i64) w A0_0 l0_0.length l0_0) (hc0_0 : l0_0.length ≤ c0_0) (h : Qez.f k l0_0 a1 a2 = some r) :
 Calls Tryz.prog 331 #[.agg #[.slice A0_0 l0_0.length c0_0], .int .i64 a1, .int .i64 a2] w fun e w'=>e= .returned (.int .i64 r)∧Below w.heap.size w w':=by
 have hu26:=Tryz.underlying26;have HR0_0:=Aside0.mk hr0_0;have HC0_0:=Aside0.mk hc0_0;clear hr0_0 hc0_0;have HB:=Aside0.mk (Below.refl w.heap.size w);have H:(if 0≤a2 then ((Qby.f k l0_0 (Go.bits .xor .i64 a1 (shl .i64 1 a2))).bind fun t512=>(if t512=true then (some (Go.bits .xor .i64 a1 (shl .i64 1 a2))) else (some a1))) else (none))=some r:=h;clear h
 by_cases c4:0≤a2
 ·
  rw [if_pos c4] at H;have c4b0:=eq_true c4;have c4b1:=decide_eq_true c4;clear c4;obtain ⟨ji5,hji5⟩: ∃ j_:Int,(shl .i64 1 a2)=j_:=⟨_,rfl⟩
  replace H:((Qby.f k l0_0 (Go.bits .xor .i64 a1 (ji5))).bind fun t512=>(if t512=true then (some (Go.bits .xor .i64 a1 (ji5))) else (some a1)))=some r:=by first|(rw [hji5] at H;exact H)|(simp only [hji5] at H ⊢;exact H)
  have hji5_:(IntKind.i64.wrap (1*2 ^ min a2.toNat 64))=ji5:=hji5;have hji5z:a2≤64→(IntKind.i64.wrap (1*2 ^ a2.toNat))=ji5:=Qef hji5;have hji5u:(IntKind.i64.wrap (2 ^ min a2.toNat 64))=ji5:=by have h_:=hji5_;rw [Int.one_mul] at h_;exact h_
  have hji5v:a2≤64→(IntKind.i64.wrap (2 ^ a2.toNat))=ji5:=fun hle_=>by have h_:=hji5z hle_;rw [Int.one_mul] at h_;exact h_
  have hji5y:(wrap64 (1*2 ^ min a2.toNat 64))=ji5:=(Qcq _).symm.trans hji5_;have hji5x:a2≤64→(wrap64 (1*2 ^ a2.toNat))=ji5:=fun h_=>(Qcq _).symm.trans (hji5z h_)
  obtain ⟨t512,A6,H⟩:=bs H;(try dsimp only at H)
  by_cases c7:t512=true
  ·
   subst c7;rw [if_pos rfl] at H;obtain rfl:=Option.some.inj H;go_enter Tryz.func331,Tryz.ntmps331;go_wp2_with (first|(refine bE (N:=3) (cs:= #[.slice A0_0 l0_0.length c0_0]) (t:=26) ?_;intro gb511 hg w8 hbox hb;have BK511:=Aside0.mk (hbox);have GW511:=Aside0.mk ((gV hg (uB HB)));have GE511:=GW511;replace HB:=Aside0.mk (Qb (uB HB) hb);clear hb hbox hg;have hcz9_0:=bC BK511;have hfz9_0:=Qf BK511.out 0)|((with_reducible refine Qdr (f:=278) rfl ?_);refine Qe2 (some 14) rfl rfl Tryz.func278 (by kernel_rfl) rfl #[.agg #[.slice A0_0 l0_0.length c0_0], .int .i64 (Go.bits .xor .i64 a1 (ji5))] rfl (by (try simp only [List.map_toArray,List.map_cons,List.map_nil]);first|done|(simp only [hji5];rfl)|rfl|(simp only [List.length_drop,List.length_take];rfl)) ?_;(with_reducible refine (Qby.calls k _ _ l0_0 (Go.bits .xor .i64 a1 (ji5)) true _ (uD HR0_0 HB) HC0_0.out A6.out).mono ?_);rintro e w10 ⟨rfl,hb⟩;refine ⟨_,rfl,?_⟩;replace BK511:=Aside0.mk (Qc (uK BK511) hb);replace HB:=Aside0.mk (Qb (uB HB) hb);(try clear hb)))
   go_ret
   exact ⟨by first|rfl|(simp [Qd,Qe] <;>rfl)|(simp only [←hji5];first|rfl|(simp [Qd,Qe] <;>rfl))|(simp [*,Qd,Qe] <;>rfl),uB HB⟩
  ·
   replace c7:=Bool.eq_false_iff.mpr c7;subst c7;rw [if_neg (show ¬ (false=true) by decide)] at H;obtain rfl:=Option.some.inj H;go_enter Tryz.func331,Tryz.ntmps331;go_wp2_with (first|(refine bE (N:=3) (cs:= #[.slice A0_0 l0_0.length c0_0]) (t:=26) ?_;intro gb511 hg w11 hbox hb;have BK511:=Aside0.mk (hbox);have GW511:=Aside0.mk ((gV hg (uB HB)));have GE511:=GW511;replace HB:=Aside0.mk (Qb (uB HB) hb);clear hb hbox hg;have hcz12_0:=bC BK511;have hfz12_0:=Qf BK511.out 0)|((with_reducible refine Qdr (f:=278) rfl ?_);refine Qe2 (some 14) rfl rfl Tryz.func278 (by kernel_rfl) rfl #[.agg #[.slice A0_0 l0_0.length c0_0], .int .i64 (Go.bits .xor .i64 a1 (ji5))] rfl (by (try simp only [List.map_toArray,List.map_cons,List.map_nil]);first|done|(simp only [hji5];rfl)|rfl|(simp only [List.length_drop,List.length_take];rfl)) ?_;(with_reducible refine (Qby.calls k _ _ l0_0 (Go.bits .xor .i64 a1 (ji5)) false _ (uD HR0_0 HB) HC0_0.out A6.out).mono ?_);rintro e w13 ⟨rfl,hb⟩;refine ⟨_,rfl,?_⟩;replace BK511:=Aside0.mk (Qc (uK BK511) hb);replace HB:=Aside0.mk (Qb (uB HB) hb);(try clear hb)))
   go_ret
   exact ⟨by first|rfl|(simp [Qd,Qe] <;>rfl)|(simp only [←hji5];first|rfl|(simp [Qd,Qe] <;>rfl))|(simp [*,Qd,Qe] <;>rfl),uB HB⟩
 ·
  rw [if_neg c4] at H;exact absurd H (by simp)
end Go.Proofs.YtkgngggppcmpfaaGreat.L
end
