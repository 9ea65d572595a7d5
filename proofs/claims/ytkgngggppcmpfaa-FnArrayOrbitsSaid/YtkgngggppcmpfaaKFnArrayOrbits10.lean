/- Laws about the given program: the law FnArrayOrbits answers true for every input that its row lets in; no condition is added to the given statement. Contracts of the Go functions that it reaches, and the plain proof over lists. -/
import Derived.Laws.BitsLemmas
import Derived.WalkKit
import Derived.Test.YtkgngggppcmpfaaWFnArrayOrbits0
import Derived.Test.YtkgngggppcmpfaaKFnArrayOrbits0
import Derived.Test.YtkgngggppcmpfaaKFnArrayOrbits1
import Derived.Test.YtkgngggppcmpfaaKFnArrayOrbits2
import Derived.Test.YtkgngggppcmpfaaKFnArrayOrbits3
import Derived.Test.YtkgngggppcmpfaaKFnArrayOrbits4
import Derived.Test.YtkgngggppcmpfaaKFnArrayOrbits5
import Derived.Test.YtkgngggppcmpfaaKFnArrayOrbits6
import Derived.Test.YtkgngggppcmpfaaKFnArrayOrbits7
import Derived.Test.YtkgngggppcmpfaaKFnArrayOrbits8
import Derived.Test.YtkgngggppcmpfaaKFnArrayOrbits9
section
namespace Go.Proofs.Ytkgngggppcmpfaa.L
open Go.RowKit Go.Proofs.YtkgngggppcmpfaaW.PrintWords Go.Proofs.YtkgngggppcmpfaaW.PrintLast Go.Proofs.YtkgngggppcmpfaaW.PrintMore
attribute [local go_sem] Qbj Qbi Qbu Qbt Qbd Qbc Qbk Qbl
set_option linter.unusedVariables false
set_option linter.unusedSimpArgs false
def Qcc.l0 : Nat → Int → List Int → Int → Int → List Int → Option (List Int)
 |0,_,_,_,_,_=>none
 |k+1,x2,x7,x13,x14,x1133000=>if x14<x13 then ((Qc9.f k x1133000 x7 x2 x14).bind fun t1136=>(Qcc.l0 k x2 t1136 x13 (wrap64 (x14+1)) x1133000)) else (some x7)
def Qcc.f (k : Nat) (l0_0 : List Int) (l1 : List Int) (a2 : Int) : Option (List Int) := (Qco.f l1).bind fun t1133 => (Qcc.l0 k a2 t1133 (l0_0.length : Int) 0 l0_0)
theorem Qcc.mono_l : ∀ k, (∀ y0 y1 y2 y3 y4, LeO (Qcc.l0 k y0 y1 y2 y3 y4) (Qcc.l0 (k + 1) y0 y1 y2 y3 y4))
 |0=>fun _ _ _ _ _ r h=>by simp [Qcc.l0] at h
 |k+1=>by
  have ih0:=Qcc.mono_l k
  ·
   intro y0 y1 y2 y3 y4;unfold Qcc.l0
   repeat' first
   |(with_reducible exact ih0 _ _ _ _ _)
   |(with_reducible exact Qc9.mono _ _ _ _ _)
   |(with_reducible exact LeO.refl _)
   |(with_reducible exact LeO.none _)
   |(with_reducible refine LeO.ite ?_ ?_)
   |(with_reducible refine LeO.bind ?_ (fun _=> ?_))
   |exact ih0 _ _ _ _ _
   |exact Qc9.mono _ _ _ _ _
   |exact LeO.none _
   |refine LeO.ite ?_ ?_
   |refine LeO.bind ?_ (fun _=> ?_)
theorem Qcc.mono : ∀ a0 a1 a2 k, LeO (Qcc.f k a0 a1 a2) (Qcc.f (k + 1) a0 a1 a2) := by
 intro a0 a1 a2 k;have ih0:=Qcc.mono_l k;unfold Qcc.f
 repeat' first
  |(with_reducible exact ih0 _ _ _ _ _)
  |(with_reducible exact Qc9.mono _ _ _ _ _)
  |(with_reducible exact LeO.refl _)
  |(with_reducible exact LeO.none _)
  |(with_reducible refine LeO.ite ?_ ?_)
  |(with_reducible refine LeO.bind ?_ (fun _=> ?_))
  |exact ih0 _ _ _ _ _
  |exact Qc9.mono _ _ _ _ _
  |exact LeO.none _
  |refine LeO.ite ?_ ?_
  |refine LeO.bind ?_ (fun _=> ?_)
set_option maxHeartbeats 8000000 in
set_option maxRecDepth 100000 in
theorem Qcc.calls (k : Nat) (A0_0 : Option Addr) (c0_0 : Nat) (l0_0 : List Int) (A1 : Option Addr) (c1 : Nat) (l1 : List Int) (a2 : Int) (r : List Int) (w : World) (hr0_0 : Kd.C (Kd.int .i64) w A0_0 l0_0.length l0_0) (hc0_0 : l0_0.length ≤ c0_0) (hr1 : Kd.C (Kd.int .i64) w A1 l1.length l1) (hc1 : l1.length ≤ c1) (h : Qcc.f k l0_0 l1 a2 = some r) :
 Calls Try.prog 87 #[.agg #[.slice A0_0 l0_0.length c0_0], .slice A1 l1.length c1, .int .i64 a2] w fun e w'=> ∃ v0_:Value,e= .returned (v0_)∧Kd.R (Kd.int .i64) 3 w' w.heap.size (fun _=>True) v0_ r∧Below w.heap.size w w':=by
 have hu26:=Try.underlying26;have HR0_0:=Aside0.mk hr0_0;have HC0_0:=Aside0.mk hc0_0;clear hr0_0 hc0_0;have HR1:=Aside0.mk hr1;have HC1:=Aside0.mk hc1;clear hr1 hc1;have HB:=Aside0.mk (Below.refl w.heap.size w);have H:((Qco.f l1).bind fun t1133=>(Qcc.l0 k a2 t1133 (l0_0.length:Int) 0 l0_0))=some r:=h;clear h;replace H:=Option.bind_eq_some_iff.mp H;obtain ⟨t1133,A40,H⟩:=H;replace H:(Qcc.l0 k a2 t1133 (l0_0.length:Int) 0 l0_0)=some r:=H;have A4:=Aside0.mk A40;clear A40;have H':=Aside0.mk H;clear H;go_enter Try.func87,Try.ntmps87;go_wp2_with (first|((with_reducible refine Qbb (N:=3) rfl ?_);refine Qbg ?hg (N:=3) ?hd (cs:= #[.slice A0_0 l0_0.length c0_0]) (t:=26) ?hr ?_;(case hd=>rfl);(case hg=>rfl);(case hr=>first|(go_simp;done)|(go_simp;rfl));intro gb1132 hg w5 hbox hb;have BK1132:=Aside0.mk (hbox);have GW1132:=Aside0.mk ((by rw [hg];exact (Qq (by repeat (first|(with_reducible first|exact HB.out|apply Qc|apply Qa|apply Qd)|exact HB.out))):w.heap.size≤gb1132));have GE1132:=GW1132;replace HB:=Aside0.mk (Qj (by repeat (first|(with_reducible first|exact HB.out|apply Qc|apply Qa|apply Qd)|exact HB.out)) hb);clear hb hbox hg)|((with_reducible refine Qk (f:=70) rfl ?_);refine Q6 (some 10) rfl rfl Try.func70 (by kernel_rfl) rfl #[.slice A1 l1.length c1] rfl (by (try simp only [List.map_toArray,List.map_cons,List.map_nil]);first|done|rfl|(simp only [List.length_drop,List.length_take];rfl)) ?_;(with_reducible refine (Qco.calls _ _ l1 t1133 _ ?side1 ?side2 A4.out).mono ?_);(case side1=>repeat (first|exact (Kd.C_below HR1.out HB.out)|(with_reducible refine Kd.C_alloc ?_ _)|(with_reducible refine Kd.C_drewN ?_ _)|(with_reducible refine Kd.C_drew ?_)));(case side2=>exact HC1.out);rintro e w6 ⟨v1134,rfl,ho0,hb⟩;refine ⟨_,rfl,?_⟩;have HO1135:=Aside0.mk (Kd.R_lower ho0 (Qq (by repeat (first|(with_reducible first|exact HB.out|apply Qc|apply Qa|apply Qd|refine Qe ?_ GE1132.out)|exact HB.out))));replace BK1132:=Aside0.mk (Qu (g:=gb1132) (o:= .cells #[.slice A0_0 l0_0.length c0_0] 26 (0,0)) (by (with_reducible repeat (first|refine Qg ?_ _|refine Qh ?_|refine Qf ?_ _));exact BK1132.out) hb);replace HB:=Aside0.mk (Qj (by repeat (first|(with_reducible first|exact HB.out|apply Qc|apply Qa|apply Qd|refine Qe ?_ GE1132.out)|exact HB.out)) hb);(try clear hb);(try clear hb2);(try clear hk);(try clear hi);(try clear ho0);have hcz7_0:w6.cell? ⟨gb1132,0,none⟩=some (.slice A0_0 l0_0.length c0_0):=(Qx BK1132.out 0).trans rfl;have hfz7_0:=Qp BK1132.out 0))
 go_loopg [7,14] k (fun kq v7 v14 w'=> ∃ (x7_1:List Int) (x14_1:Int),v14= .int .i64 x14_1∧Aside0 (Qcc.l0 kq a2 x7_1 (l0_0.length:Int) x14_1 l0_0=some r)∧Aside0 (kq≤k)∧Aside0 (Kd.R (Kd.int .i64) 3 w' w.heap.size (fun _=>True) v7 x7_1)∧Aside0 (w'.heap[gb1132]? =some (.cells #[(.slice A0_0 l0_0.length c0_0)] 26 (0,0)))∧Aside0 (Below w.heap.size w w'))
 case atStart=>exact ⟨(t1133),(0),(by first|rfl|(simp;done)|(simp [*];done)),H',⟨Nat.le_refl _⟩,⟨by (with_reducible repeat (first|apply Kd.R_alloc|apply Kd.R_drewN|apply Kd.R_drew));exact HO1135.out⟩,⟨by (with_reducible repeat (first|refine Qg ?_ _|refine Qh ?_|refine Qf ?_ _));exact BK1132.out⟩,⟨by repeat (first|(with_reducible first|exact HB.out|apply Qc|apply Qa|apply Qd|refine Qe ?_ GE1132.out)|exact HB.out)⟩⟩
 case round=>
  clear H'
  try clear c1
  try clear p2
  try clear c7
  try clear hcz7_0
  try clear hfz7_0
  obtain ⟨x7_1,x14_1,rfl,HA,HK1,HO_7,BK1132,HB⟩:=hrel;cases gk with
  |zero=>exact absurd HA.out (by simp [Qcc.l0])
  |succ k1=>
   have H:=HA.out;clear HA;simp only [Qcc.l0] at H
   by_cases c8:x14_1<(l0_0.length:Int)
   ·
    rw [if_pos c8] at H;have c8b0:decide (x14_1<(l0_0.length:Int))=true:=decide_eq_true c8;clear c8;replace H:=Option.bind_eq_some_iff.mp H;obtain ⟨t1136,A90,H⟩:=H;replace H:(Qcc.l0 k1 a2 t1136 (l0_0.length:Int) (wrap64 (x14_1+1)) l0_0)=some r:=H;have A9:=Aside0.mk A90;clear A90;have H':=Aside0.mk H;clear H;have hcz10_0:wr.cell? ⟨gb1132,0,none⟩=some (.slice A0_0 l0_0.length c0_0):=(Qx BK1132.out 0).trans rfl;have hfz10_0:=Qp BK1132.out 0;obtain ⟨Ao11,co11,eo11⟩:=Kd.R_slice HO_7.out;subst eo11;go_wp2_with (first|((with_reducible refine Qk (f:=80) rfl ?_);refine Q6 (some 21) rfl rfl Try.func80 (by kernel_rfl) rfl #[.agg #[.slice A0_0 l0_0.length c0_0], .slice Ao11 x7_1.length co11, .int .i64 a2, .int .i64 x14_1] rfl (by (try simp only [List.map_toArray,List.map_cons,List.map_nil]);first|done|rfl|(simp only [List.length_drop,List.length_take];rfl)) ?_;(with_reducible refine (Qc9.calls k1 _ _ l0_0 _ _ x7_1 a2 x14_1 t1136 _ ?side1 ?side2 ?side3 ?side4 A9.out).mono ?_);(case side1=>repeat (first|exact (Kd.C_below HR0_0.out HB.out)|(with_reducible refine Kd.C_alloc ?_ _)|(with_reducible refine Kd.C_drewN ?_ _)|(with_reducible refine Kd.C_drew ?_)));(case side2=>exact HC0_0.out);(case side3=>repeat (first|exact (Kd.R_reads' HO_7.out).2.2|(with_reducible refine Kd.C_alloc ?_ _)|(with_reducible refine Kd.C_drewN ?_ _)|(with_reducible refine Kd.C_drew ?_)));(case side4=>exact (Kd.R_reads' HO_7.out).2.1);rintro e w12 ⟨v1137,rfl,ho0,hb⟩;refine ⟨_,rfl,?_⟩;have HO1138:=Aside0.mk (Kd.R_lower (Kd.R_new' ho0 (Kd.R_lt (by (with_reducible repeat (first|apply Kd.R_alloc|apply Kd.R_drewN|apply Kd.R_drew));exact HO_7.out))) (Qq (by repeat (first|(with_reducible first|exact HB.out|apply Qc|apply Qa|apply Qd|refine Qe ?_ GE1132.out)|exact HB.out))));replace HO_7:=Aside0.mk (Kd.R_elder' (by (with_reducible repeat (first|apply Kd.R_alloc|apply Kd.R_drewN|apply Kd.R_drew));exact HO_7.out) (Kd.R_base ho0) hb);replace BK1132:=Aside0.mk (Qu (g:=gb1132) (o:= .cells #[.slice A0_0 l0_0.length c0_0] 26 (0,0)) (by (with_reducible repeat (first|refine Qg ?_ _|refine Qh ?_|refine Qf ?_ _));exact BK1132.out) hb);replace HB:=Aside0.mk (Qj (by repeat (first|(with_reducible first|exact HB.out|apply Qc|apply Qa|apply Qd|refine Qe ?_ GE1132.out)|exact HB.out)) hb);(try clear hb);(try clear hb2);(try clear hk);(try clear hi);(try clear ho0)));go_roundg k1
    case measure=>have:=HK1.out;omega
    case rel=>exact ⟨(t1136),(wrap64 (x14_1+1)),(by first|rfl|(simp;done)|(simp [*];done)),H',⟨by have:=HK1.out;omega⟩,⟨by (with_reducible repeat (first|apply Kd.R_alloc|apply Kd.R_drewN|apply Kd.R_drew));exact Kd.R_mono HO1138.out (fun _ hk=>trivial)⟩,⟨by (with_reducible repeat (first|refine Qg ?_ _|refine Qh ?_|refine Qf ?_ _));exact BK1132.out⟩,⟨by repeat (first|(with_reducible first|exact HB.out|apply Qc|apply Qa|apply Qd|refine Qe ?_ GE1132.out)|exact HB.out)⟩⟩
   ·
    rw [if_neg c8] at H;have c8b0:decide (x14_1<(l0_0.length:Int))=false:=decide_eq_false c8;clear c8;obtain rfl:=Option.some.inj H;go_wp2
    go_ret
    exact ⟨_,by first|rfl|(simp [Qm,Ql] <;>rfl)|(simp [*,Qm,Ql] <;>rfl),by (with_reducible repeat (first|apply Kd.R_alloc|apply Kd.R_drewN|apply Kd.R_drew));exact HO_7.out,by repeat (first|(with_reducible first|exact HB.out|apply Qc|apply Qa|apply Qd|refine Qe ?_ GE1132.out)|exact HB.out)⟩
mutual
def Q3.j0 : Nat → List Int → Int → Int → Bool → List Int → Option (List Int × Bool)
 |0,_,_,_,_,_=>none
 |k+1,x1,x2,x3,x20,x1177000=>if x20=true then (some (([] :List Int),false)) else ((Qco.f x1).bind fun t1179=>(Q3.l0 k x2 x3 t1179 x1177000))
def Q3.l0 : Nat → Int → Int → List Int → List Int → Option (List Int × Bool)
 |0,_,_,_,_=>none
 |k+1,x2,x3,x10,x1177000=>if x3>0 then ((Qb1.f k x1177000 x10 x2).bind fun t1182=>(Q3.l0 k x2 (wrap64 (x3 - 1)) t1182 x1177000)) else (Q3.l1 k x2 x3 x10 x1177000)
def Q3.l1 : Nat → Int → Int → List Int → List Int → Option (List Int × Bool)
 |0,_,_,_,_=>none
 |k+1,x2,x3,x10,x1177000=>if x3<0 then ((Qcc.f k x1177000 x10 x2).bind fun t1185=>(Q3.l1 k x2 (wrap64 (x3+1)) t1185 x1177000)) else (some (x10,true))
end
def Q3.f (k : Nat) (l0_0 : List Int) (l1 : List Int) (a2 : Int) (a3 : Int) : Option (List Int × Bool) := (Qcm.f k l0_0 l1 a2).bind fun t1177 => (if t1177 = true then ((Qcq.f a3 (-1000) 1000).bind fun t1178 => (Q3.j0 k l1 a2 a3 (!t1178) l0_0)) else (Q3.j0 k l1 a2 a3 true l0_0))
theorem Q3.mono_l : ∀ k, (∀ y0 y1 y2 y3 y4, LeO (Q3.j0 k y0 y1 y2 y3 y4) (Q3.j0 (k + 1) y0 y1 y2 y3 y4)) ∧ (∀ y0 y1 y2 y3, LeO (Q3.l0 k y0 y1 y2 y3) (Q3.l0 (k + 1) y0 y1 y2 y3)) ∧ (∀ y0 y1 y2 y3, LeO (Q3.l1 k y0 y1 y2 y3) (Q3.l1 (k + 1) y0 y1 y2 y3))
 |0=>⟨fun _ _ _ _ _ r h=>by simp [Q3.j0] at h,fun _ _ _ _ r h=>by simp [Q3.l0] at h,fun _ _ _ _ r h=>by simp [Q3.l1] at h⟩
 |k+1=>by
  obtain ⟨ih0,ih1,ih2⟩:=Q3.mono_l k;refine ⟨?_,?_,?_⟩
  ·
   intro y0 y1 y2 y3 y4;unfold Q3.j0
   repeat' first
   |(with_reducible exact ih0 _ _ _ _ _)
   |(with_reducible exact ih1 _ _ _ _)
   |(with_reducible exact ih2 _ _ _ _)
   |(with_reducible exact Qcc.mono _ _ _ _)
   |(with_reducible exact Qcm.mono _ _ _ _)
   |(with_reducible exact Qb1.mono _ _ _ _)
   |(with_reducible exact LeO.refl _)
   |(with_reducible exact LeO.none _)
   |(with_reducible refine LeO.ite ?_ ?_)
   |(with_reducible refine LeO.bind ?_ (fun _=> ?_))
   |exact ih0 _ _ _ _ _
   |exact ih1 _ _ _ _
   |exact ih2 _ _ _ _
   |exact Qcc.mono _ _ _ _
   |exact Qcm.mono _ _ _ _
   |exact Qb1.mono _ _ _ _
   |exact LeO.none _
   |refine LeO.ite ?_ ?_
   |refine LeO.bind ?_ (fun _=> ?_)
  ·
   intro y0 y1 y2 y3;unfold Q3.l0
   repeat' first
   |(with_reducible exact ih0 _ _ _ _ _)
   |(with_reducible exact ih1 _ _ _ _)
   |(with_reducible exact ih2 _ _ _ _)
   |(with_reducible exact Qcc.mono _ _ _ _)
   |(with_reducible exact Qcm.mono _ _ _ _)
   |(with_reducible exact Qb1.mono _ _ _ _)
   |(with_reducible exact LeO.refl _)
   |(with_reducible exact LeO.none _)
   |(with_reducible refine LeO.ite ?_ ?_)
   |(with_reducible refine LeO.bind ?_ (fun _=> ?_))
   |exact ih0 _ _ _ _ _
   |exact ih1 _ _ _ _
   |exact ih2 _ _ _ _
   |exact Qcc.mono _ _ _ _
   |exact Qcm.mono _ _ _ _
   |exact Qb1.mono _ _ _ _
   |exact LeO.none _
   |refine LeO.ite ?_ ?_
   |refine LeO.bind ?_ (fun _=> ?_)
  ·
   intro y0 y1 y2 y3;unfold Q3.l1
   repeat' first
   |(with_reducible exact ih0 _ _ _ _ _)
   |(with_reducible exact ih1 _ _ _ _)
   |(with_reducible exact ih2 _ _ _ _)
   |(with_reducible exact Qcc.mono _ _ _ _)
   |(with_reducible exact Qcm.mono _ _ _ _)
   |(with_reducible exact Qb1.mono _ _ _ _)
   |(with_reducible exact LeO.refl _)
   |(with_reducible exact LeO.none _)
   |(with_reducible refine LeO.ite ?_ ?_)
   |(with_reducible refine LeO.bind ?_ (fun _=> ?_))
   |exact ih0 _ _ _ _ _
   |exact ih1 _ _ _ _
   |exact ih2 _ _ _ _
   |exact Qcc.mono _ _ _ _
   |exact Qcm.mono _ _ _ _
   |exact Qb1.mono _ _ _ _
   |exact LeO.none _
   |refine LeO.ite ?_ ?_
   |refine LeO.bind ?_ (fun _=> ?_)
theorem Q3.mono : ∀ a0 a1 a2 a3 k, LeO (Q3.f k a0 a1 a2 a3) (Q3.f (k + 1) a0 a1 a2 a3) := by
 intro a0 a1 a2 a3 k;obtain ⟨ih0,ih1,ih2⟩:=Q3.mono_l k;unfold Q3.f
 repeat' first
  |(with_reducible exact ih0 _ _ _ _ _)
  |(with_reducible exact ih1 _ _ _ _)
  |(with_reducible exact ih2 _ _ _ _)
  |(with_reducible exact Qcc.mono _ _ _ _)
  |(with_reducible exact Qcm.mono _ _ _ _)
  |(with_reducible exact Qb1.mono _ _ _ _)
  |(with_reducible exact LeO.refl _)
  |(with_reducible exact LeO.none _)
  |(with_reducible refine LeO.ite ?_ ?_)
  |(with_reducible refine LeO.bind ?_ (fun _=> ?_))
  |exact ih0 _ _ _ _ _
  |exact ih1 _ _ _ _
  |exact ih2 _ _ _ _
  |exact Qcc.mono _ _ _ _
  |exact Qcm.mono _ _ _ _
  |exact Qb1.mono _ _ _ _
  |exact LeO.none _
  |refine LeO.ite ?_ ?_
  |refine LeO.bind ?_ (fun _=> ?_)
set_option maxHeartbeats 8000000 in
set_option maxRecDepth 100000 in
theorem Q3.calls (k : Nat) (A0_0 : Option Addr) (c0_0 : Nat) (l0_0 : List Int) (A1 : Option Addr) (c1 : Nat) (l1 : List Int) (a2 : Int) (a3 : Int) (r1 : List Int) (r2 : Bool) (w : World) (hr0_0 : Kd.C (Kd.int .i64) w A0_0 l0_0.length l0_0) (hc0_0 : l0_0.length ≤ c0_0) (hr1 : Kd.C (Kd.int .i64) w A1 l1.length l1) (hc1 : l1.length ≤ c1) (h : Q3.f k l0_0 l1 a2 a3 = some (r1, r2)) :
 Calls Try.prog 35 #[.agg #[.slice A0_0 l0_0.length c0_0], .slice A1 l1.length c1, .int .i64 a2, .int .i64 a3] w fun e w'=> ∃ v0_:Value,e= .returned (.tuple #[v0_, .bool r2])∧Kd.R (Kd.int .i64) 3 w' w.heap.size (fun _=>True) v0_ r1∧Below w.heap.size w w':=by
 have hu26:=Try.underlying26;have HR0_0:=Aside0.mk hr0_0;have HC0_0:=Aside0.mk hc0_0;clear hr0_0 hc0_0;have HR1:=Aside0.mk hr1;have HC1:=Aside0.mk hc1;clear hr1 hc1;have HB:=Aside0.mk (Below.refl w.heap.size w);have H:((Qcm.f k l0_0 l1 a2).bind fun t1177=>(if t1177=true then ((Qcq.f a3 (-1000) 1000).bind fun t1178=>(Q3.j0 k l1 a2 a3 (!t1178) l0_0)) else (Q3.j0 k l1 a2 a3 true l0_0)))=some (r1,r2):=h;clear h;have HC5:=Aside0.mk H;clear H;go_enter Try.func35,Try.ntmps35;go_upto_region 1 with (first|((with_reducible refine Qbb (N:=4) rfl ?_);refine Qbg ?hg (N:=4) ?hd (cs:= #[.slice A0_0 l0_0.length c0_0]) (t:=26) ?hr ?_;(case hd=>rfl);(case hg=>rfl);(case hr=>first|(go_simp;done)|(go_simp;rfl));intro gb1176 hg w6 hbox hb;have BK1176:=Aside0.mk (hbox);have GW1176:=Aside0.mk ((by rw [hg];exact (Qq (by repeat (first|(with_reducible first|exact HB.out|apply Qc|apply Qa|apply Qd)|exact HB.out))):w.heap.size≤gb1176));have GE1176:=GW1176;replace HB:=Aside0.mk (Qj (by repeat (first|(with_reducible first|exact HB.out|apply Qc|apply Qa|apply Qd)|exact HB.out)) hb);clear hb hbox hg))
 (try simp only [Act.put,List.setIfInBounds_toArray,List.set_cons_zero,List.set_cons_succ])
 go_cut [20] (fun v20 wc=> ∃ (kq:Nat) (x20_4:Bool),v20= .bool x20_4∧Aside0 (Q3.j0 kq l1 a2 a3 x20_4 l0_0=some (r1,r2))∧Aside0 (kq≤k)∧Aside0 (wc.heap[gb1176]? =some (.cells #[(.slice A0_0 l0_0.length c0_0)] 26 (0,0)))∧Aside0 (Below w.heap.size w wc))
 case first=>
  have H:=HC5.out;clear HC5;replace H:=Option.bind_eq_some_iff.mp H;obtain ⟨t1177,A70,H⟩:=H;replace H:(if t1177=true then ((Qcq.f a3 (-1000) 1000).bind fun t1178=>(Q3.j0 k l1 a2 a3 (!t1178) l0_0)) else (Q3.j0 k l1 a2 a3 true l0_0))=some (r1,r2):=H;have A7:=Aside0.mk A70;clear A70
  by_cases c8:t1177=true
  ·
   subst c8;have H1:((Qcq.f a3 (-1000) 1000).bind fun t1178=>(Q3.j0 k l1 a2 a3 (!t1178) l0_0))=some (r1,r2):=by rw [if_pos rfl] at H;exact H
   clear H;have H:=H1;clear H1;replace H:=Option.bind_eq_some_iff.mp H;obtain ⟨t1178,A90,H⟩:=H;replace H:(Q3.j0 k l1 a2 a3 (!t1178) l0_0)=some (r1,r2):=H;have A9:=Aside0.mk A90;clear A90;have H':=Aside0.mk H;clear H;have hcz10_0:w6.cell? ⟨gb1176,0,none⟩=some (.slice A0_0 l0_0.length c0_0):=(Qx BK1176.out 0).trans rfl;have hfz10_0:=Qp BK1176.out 0;go_wp2_with (first|((with_reducible refine Qk (f:=69) rfl ?_);refine Q6 (some 14) rfl rfl Try.func69 (by kernel_rfl) rfl #[.agg #[.slice A0_0 l0_0.length c0_0], .slice A1 l1.length c1, .int .i64 a2] rfl (by (try simp only [List.map_toArray,List.map_cons,List.map_nil]);first|done|rfl|(simp only [List.length_drop,List.length_take];rfl)) ?_;(with_reducible refine (Qcm.calls k _ _ l0_0 _ _ l1 a2 true _ ?side1 ?side2 ?side3 ?side4 A7.out).mono ?_);(case side1=>repeat (first|exact (Kd.C_below HR0_0.out HB.out)|(with_reducible refine Kd.C_alloc ?_ _)|(with_reducible refine Kd.C_drewN ?_ _)|(with_reducible refine Kd.C_drew ?_)));(case side2=>exact HC0_0.out);(case side3=>repeat (first|exact (Kd.C_below HR1.out HB.out)|(with_reducible refine Kd.C_alloc ?_ _)|(with_reducible refine Kd.C_drewN ?_ _)|(with_reducible refine Kd.C_drew ?_)));(case side4=>exact HC1.out);rintro e w11 ⟨rfl,hb⟩;refine ⟨_,rfl,?_⟩;replace BK1176:=Aside0.mk (Qu (g:=gb1176) (o:= .cells #[.slice A0_0 l0_0.length c0_0] 26 (0,0)) (by (with_reducible repeat (first|refine Qg ?_ _|refine Qh ?_|refine Qf ?_ _));exact BK1176.out) hb);replace HB:=Aside0.mk (Qj (by repeat (first|(with_reducible first|exact HB.out|apply Qc|apply Qa|apply Qd|refine Qe ?_ GE1176.out)|exact HB.out)) hb);(try clear hb);(try clear hb2);(try clear hk);(try clear hi))|(go_at_call 95;(with_reducible refine (Qcq.calls a3 (-1000) 1000 t1178 _ A9.out).mono ?_);rintro e w' ⟨rfl,⟨nd,rfl⟩⟩))
   go_meet
   case rel=>exact ⟨_,(!t1178),(by first|rfl|(simp;done)|(simp [*];done)),H',⟨by first|omega|exact Nat.le_refl _⟩,⟨by (with_reducible repeat (first|refine Qg ?_ _|refine Qh ?_|refine Qf ?_ _));exact BK1176.out⟩,⟨by repeat (first|(with_reducible first|exact HB.out|apply Qc|apply Qa|apply Qd|refine Qe ?_ GE1176.out)|exact HB.out)⟩⟩
  ·
   replace c8:=Bool.eq_false_iff.mpr c8;subst c8;have H1:(Q3.j0 k l1 a2 a3 true l0_0)=some (r1,r2):=by rw [if_neg (show ¬ (false=true) by decide)] at H;exact H
   clear H;have H:=H1;clear H1;have H':=Aside0.mk H;clear H;have hcz12_0:w6.cell? ⟨gb1176,0,none⟩=some (.slice A0_0 l0_0.length c0_0):=(Qx BK1176.out 0).trans rfl;have hfz12_0:=Qp BK1176.out 0;go_wp2_with (first|((with_reducible refine Qk (f:=69) rfl ?_);refine Q6 (some 14) rfl rfl Try.func69 (by kernel_rfl) rfl #[.agg #[.slice A0_0 l0_0.length c0_0], .slice A1 l1.length c1, .int .i64 a2] rfl (by (try simp only [List.map_toArray,List.map_cons,List.map_nil]);first|done|rfl|(simp only [List.length_drop,List.length_take];rfl)) ?_;(with_reducible refine (Qcm.calls k _ _ l0_0 _ _ l1 a2 false _ ?side1 ?side2 ?side3 ?side4 A7.out).mono ?_);(case side1=>repeat (first|exact (Kd.C_below HR0_0.out HB.out)|(with_reducible refine Kd.C_alloc ?_ _)|(with_reducible refine Kd.C_drewN ?_ _)|(with_reducible refine Kd.C_drew ?_)));(case side2=>exact HC0_0.out);(case side3=>repeat (first|exact (Kd.C_below HR1.out HB.out)|(with_reducible refine Kd.C_alloc ?_ _)|(with_reducible refine Kd.C_drewN ?_ _)|(with_reducible refine Kd.C_drew ?_)));(case side4=>exact HC1.out);rintro e w13 ⟨rfl,hb⟩;refine ⟨_,rfl,?_⟩;replace BK1176:=Aside0.mk (Qu (g:=gb1176) (o:= .cells #[.slice A0_0 l0_0.length c0_0] 26 (0,0)) (by (with_reducible repeat (first|refine Qg ?_ _|refine Qh ?_|refine Qf ?_ _));exact BK1176.out) hb);replace HB:=Aside0.mk (Qj (by repeat (first|(with_reducible first|exact HB.out|apply Qc|apply Qa|apply Qd|refine Qe ?_ GE1176.out)|exact HB.out)) hb);(try clear hb);(try clear hb2);(try clear hk);(try clear hi)))
   go_meet
   case rel=>exact ⟨_,(true),(by first|rfl|(simp;done)|(simp [*];done)),H',⟨by first|omega|exact Nat.le_refl _⟩,⟨by (with_reducible repeat (first|refine Qg ?_ _|refine Qh ?_|refine Qf ?_ _));exact BK1176.out⟩,⟨by repeat (first|(with_reducible first|exact HB.out|apply Qc|apply Qa|apply Qd|refine Qe ?_ GE1176.out)|exact HB.out)⟩⟩
 case rest=>
  clear HC5
  try clear c1
  try clear p2
  try clear c3
  try clear c6
  try clear c8
  try clear hcz10_0
  try clear hcz12_0
  try clear hfz10_0
  try clear hfz12_0
  obtain ⟨kq,x20_4,rfl,HA,HJ4,BK1176,HB⟩:=hcut;cases kq with
  |zero=>exact absurd HA.out (by simp [Q3.j0])
  |succ kj4=>
   have H:=HA.out;clear HA;simp only [Q3.j0] at H
   by_cases c14:x20_4=true
   ·
    subst c14;have H1:(some (([] :List Int),false))=some (r1,r2):=by rw [if_pos rfl] at H;exact H
    clear H;have H:=H1;clear H1;simp only [Option.some.injEq,Prod.mk.injEq] at H;obtain ⟨rfl,rfl⟩:=H;go_wp2
    go_ret2
    exact ⟨_,by first|rfl|(simp [Qm,Ql] <;>rfl)|(simp [*,Qm,Ql] <;>rfl),by first|exact Kd.R_nil _ _ _ _ _|exact Kd.N_nil _ _ _ _ _|exact Kd.V_nil _ _ _ _ _|exact Kd.Q_nil _ _ _ _ _|exact Kd.S_nil _ _ _ _ _,by repeat (first|(with_reducible first|exact HB.out|apply Qc|apply Qa|apply Qd|refine Qe ?_ GE1176.out)|exact HB.out)⟩
   ·
    replace c14:=Bool.eq_false_iff.mpr c14;subst c14;have H1:((Qco.f l1).bind fun t1179=>(Q3.l0 kj4 a2 a3 t1179 l0_0))=some (r1,r2):=by rw [if_neg (show ¬ (false=true) by decide)] at H;exact H
    clear H;have H:=H1;clear H1;replace H:=Option.bind_eq_some_iff.mp H;obtain ⟨t1179,A150,H⟩:=H;replace H:(Q3.l0 kj4 a2 a3 t1179 l0_0)=some (r1,r2):=H;have A15:=Aside0.mk A150;clear A150;have H':=Aside0.mk H;clear H;go_wp2_with (first|((with_reducible refine Qk (f:=70) rfl ?_);refine Q6 (some 22) rfl rfl Try.func70 (by kernel_rfl) rfl #[.slice A1 l1.length c1] rfl (by (try simp only [List.map_toArray,List.map_cons,List.map_nil]);first|done|rfl|(simp only [List.length_drop,List.length_take];rfl)) ?_;(with_reducible refine (Qco.calls _ _ l1 t1179 _ ?side1 ?side2 A15.out).mono ?_);(case side1=>repeat (first|exact (Kd.C_below HR1.out HB.out)|(with_reducible refine Kd.C_alloc ?_ _)|(with_reducible refine Kd.C_drewN ?_ _)|(with_reducible refine Kd.C_drew ?_)));(case side2=>exact HC1.out);rintro e w16 ⟨v1180,rfl,ho0,hb⟩;refine ⟨_,rfl,?_⟩;have HO1181:=Aside0.mk (Kd.R_lower ho0 (Qq (by repeat (first|(with_reducible first|exact HB.out|apply Qc|apply Qa|apply Qd|refine Qe ?_ GE1176.out)|exact HB.out))));replace BK1176:=Aside0.mk (Qu (g:=gb1176) (o:= .cells #[.slice A0_0 l0_0.length c0_0] 26 (0,0)) (by (with_reducible repeat (first|refine Qg ?_ _|refine Qh ?_|refine Qf ?_ _));exact BK1176.out) hb);replace HB:=Aside0.mk (Qj (by repeat (first|(with_reducible first|exact HB.out|apply Qc|apply Qa|apply Qd|refine Qe ?_ GE1176.out)|exact HB.out)) hb);(try clear hb);(try clear hb2);(try clear hk);(try clear hi);(try clear ho0)))
    go_loopg [3,10] kj4 (fun kq v3 v10 w'=> ∃ (x3_2:Int) (x10_2:List Int),v3= .int .i64 x3_2∧Aside0 (Q3.l0 kq a2 x3_2 x10_2 l0_0=some (r1,r2))∧Aside0 (kq≤kj4)∧Aside0 (Kd.R (Kd.int .i64) 3 w' w.heap.size (fun _=>True) v10 x10_2)∧Aside0 (w'.heap[gb1176]? =some (.cells #[(.slice A0_0 l0_0.length c0_0)] 26 (0,0)))∧Aside0 (Below w.heap.size w w'))
    case atStart=>exact ⟨(a3),(t1179),(by first|rfl|(simp;done)|(simp [*];done)),H',⟨Nat.le_refl _⟩,⟨by (with_reducible repeat (first|apply Kd.R_alloc|apply Kd.R_drewN|apply Kd.R_drew));exact HO1181.out⟩,⟨by (with_reducible repeat (first|refine Qg ?_ _|refine Qh ?_|refine Qf ?_ _));exact BK1176.out⟩,⟨by repeat (first|(with_reducible first|exact HB.out|apply Qc|apply Qa|apply Qd|refine Qe ?_ GE1176.out)|exact HB.out)⟩⟩
    case round=>
     clear H'
     try clear c1
     try clear p2
     try clear c3
     try clear c6
     try clear c7
     try clear c8
     try clear c14
     try clear hcz10_0
     try clear hcz12_0
     try clear hfz10_0
     try clear hfz12_0
     try clear p2
     obtain ⟨x3_2,x10_2,rfl,HA,HK2,HO_10,BK1176,HB⟩:=hrel;cases gk with
     |zero=>exact absurd HA.out (by simp [Q3.l0])
     |succ k2=>
      have H:=HA.out;clear HA;simp only [Q3.l0] at H
      by_cases c17:x3_2>0
      ·
       rw [if_pos c17] at H;have c17b0:decide (0<x3_2)=true:=decide_eq_true c17;clear c17;replace H:=Option.bind_eq_some_iff.mp H;obtain ⟨t1182,A180,H⟩:=H;replace H:(Q3.l0 k2 a2 (wrap64 (x3_2 - 1)) t1182 l0_0)=some (r1,r2):=H;have A18:=Aside0.mk A180;clear A180;have H':=Aside0.mk H;clear H;have hcz19_0:wr.cell? ⟨gb1176,0,none⟩=some (.slice A0_0 l0_0.length c0_0):=(Qx BK1176.out 0).trans rfl;have hfz19_0:=Qp BK1176.out 0;obtain ⟨Ao20,co20,eo20⟩:=Kd.R_slice HO_10.out;subst eo20;go_wp2_with (first|((with_reducible refine Qk (f:=71) rfl ?_);refine Q6 (some 30) rfl rfl Try.func71 (by kernel_rfl) rfl #[.agg #[.slice A0_0 l0_0.length c0_0], .slice Ao20 x10_2.length co20, .int .i64 a2] rfl (by (try simp only [List.map_toArray,List.map_cons,List.map_nil]);first|done|rfl|(simp only [List.length_drop,List.length_take];rfl)) ?_;(with_reducible refine (Qb1.calls k2 _ _ l0_0 _ _ x10_2 a2 t1182 _ ?side1 ?side2 ?side3 ?side4 A18.out).mono ?_);(case side1=>repeat (first|exact (Kd.C_below HR0_0.out HB.out)|(with_reducible refine Kd.C_alloc ?_ _)|(with_reducible refine Kd.C_drewN ?_ _)|(with_reducible refine Kd.C_drew ?_)));(case side2=>exact HC0_0.out);(case side3=>repeat (first|exact (Kd.R_reads' HO_10.out).2.2|(with_reducible refine Kd.C_alloc ?_ _)|(with_reducible refine Kd.C_drewN ?_ _)|(with_reducible refine Kd.C_drew ?_)));(case side4=>exact (Kd.R_reads' HO_10.out).2.1);rintro e w21 ⟨v1183,rfl,ho0,hb⟩;refine ⟨_,rfl,?_⟩;have HO1184:=Aside0.mk (Kd.R_lower (Kd.R_new' ho0 (Kd.R_lt (by (with_reducible repeat (first|apply Kd.R_alloc|apply Kd.R_drewN|apply Kd.R_drew));exact HO_10.out))) (Qq (by repeat (first|(with_reducible first|exact HB.out|apply Qc|apply Qa|apply Qd|refine Qe ?_ GE1176.out)|exact HB.out))));replace HO_10:=Aside0.mk (Kd.R_elder' (by (with_reducible repeat (first|apply Kd.R_alloc|apply Kd.R_drewN|apply Kd.R_drew));exact HO_10.out) (Kd.R_base ho0) hb);replace BK1176:=Aside0.mk (Qu (g:=gb1176) (o:= .cells #[.slice A0_0 l0_0.length c0_0] 26 (0,0)) (by (with_reducible repeat (first|refine Qg ?_ _|refine Qh ?_|refine Qf ?_ _));exact BK1176.out) hb);replace HB:=Aside0.mk (Qj (by repeat (first|(with_reducible first|exact HB.out|apply Qc|apply Qa|apply Qd|refine Qe ?_ GE1176.out)|exact HB.out)) hb);(try clear hb);(try clear hb2);(try clear hk);(try clear hi);(try clear ho0)));go_roundg k2
       case measure=>have:=HJ4.out;have:=HK2.out;omega
       case rel=>exact ⟨(wrap64 (x3_2 - 1)),(t1182),(by first|rfl|(simp;done)|(simp [*];done)),H',⟨by have:=HJ4.out;have:=HK2.out;omega⟩,⟨by (with_reducible repeat (first|apply Kd.R_alloc|apply Kd.R_drewN|apply Kd.R_drew));exact Kd.R_mono HO1184.out (fun _ hk=>trivial)⟩,⟨by (with_reducible repeat (first|refine Qg ?_ _|refine Qh ?_|refine Qf ?_ _));exact BK1176.out⟩,⟨by repeat (first|(with_reducible first|exact HB.out|apply Qc|apply Qa|apply Qd|refine Qe ?_ GE1176.out)|exact HB.out)⟩⟩
      ·
       rw [if_neg c17] at H;have c17b0:decide (0<x3_2)=false:=decide_eq_false c17;clear c17;have H':=Aside0.mk H;clear H;go_wp2
       go_loopg [3,10] k2 (fun kq v3 v10 w'=> ∃ (x3_3:Int) (x10_3:List Int),v3= .int .i64 x3_3∧Aside0 (Q3.l1 kq a2 x3_3 x10_3 l0_0=some (r1,r2))∧Aside0 (kq≤k2)∧Aside0 (Kd.R (Kd.int .i64) 3 w' w.heap.size (fun _=>True) v10 x10_3)∧Aside0 (w'.heap[gb1176]? =some (.cells #[(.slice A0_0 l0_0.length c0_0)] 26 (0,0)))∧Aside0 (Below w.heap.size w w'))
       case atStart=>exact ⟨(x3_2),(x10_2),(by first|rfl|(simp;done)|(simp [*];done)),H',⟨Nat.le_refl _⟩,⟨by (with_reducible repeat (first|apply Kd.R_alloc|apply Kd.R_drewN|apply Kd.R_drew));exact HO_10.out⟩,⟨by (with_reducible repeat (first|refine Qg ?_ _|refine Qh ?_|refine Qf ?_ _));exact BK1176.out⟩,⟨by repeat (first|(with_reducible first|exact HB.out|apply Qc|apply Qa|apply Qd|refine Qe ?_ GE1176.out)|exact HB.out)⟩⟩
       case round=>
        clear H'
        try clear c1
        try clear p2
        try clear c3
        try clear c6
        try clear p6
        try clear c7
        try clear c8
        try clear c14
        try clear c17
        try clear c17b0
        try clear hcz10_0
        try clear hcz12_0
        try clear hcz19_0
        try clear hfz10_0
        try clear hfz12_0
        try clear hfz19_0
        try clear p2
        obtain ⟨x3_3,x10_3,rfl,HA,HK3,HO_10,BK1176,HB⟩:=hrel;cases gk with
        |zero=>exact absurd HA.out (by simp [Q3.l1])
        |succ k3=>
         have H:=HA.out;clear HA;simp only [Q3.l1] at H
         by_cases c22:x3_3<0
         ·
          rw [if_pos c22] at H;have c22b0:decide (x3_3<0)=true:=decide_eq_true c22;clear c22;replace H:=Option.bind_eq_some_iff.mp H;obtain ⟨t1185,A230,H⟩:=H;replace H:(Q3.l1 k3 a2 (wrap64 (x3_3+1)) t1185 l0_0)=some (r1,r2):=H;have A23:=Aside0.mk A230;clear A230;have H':=Aside0.mk H;clear H;have hcz24_0:wr.cell? ⟨gb1176,0,none⟩=some (.slice A0_0 l0_0.length c0_0):=(Qx BK1176.out 0).trans rfl;have hfz24_0:=Qp BK1176.out 0;obtain ⟨Ao25,co25,eo25⟩:=Kd.R_slice HO_10.out;subst eo25;go_wp2_with (first|((with_reducible refine Qk (f:=87) rfl ?_);refine Q6 (some 38) rfl rfl Try.func87 (by kernel_rfl) rfl #[.agg #[.slice A0_0 l0_0.length c0_0], .slice Ao25 x10_3.length co25, .int .i64 a2] rfl (by (try simp only [List.map_toArray,List.map_cons,List.map_nil]);first|done|rfl|(simp only [List.length_drop,List.length_take];rfl)) ?_;(with_reducible refine (Qcc.calls k3 _ _ l0_0 _ _ x10_3 a2 t1185 _ ?side1 ?side2 ?side3 ?side4 A23.out).mono ?_);(case side1=>repeat (first|exact (Kd.C_below HR0_0.out HB.out)|(with_reducible refine Kd.C_alloc ?_ _)|(with_reducible refine Kd.C_drewN ?_ _)|(with_reducible refine Kd.C_drew ?_)));(case side2=>exact HC0_0.out);(case side3=>repeat (first|exact (Kd.R_reads' HO_10.out).2.2|(with_reducible refine Kd.C_alloc ?_ _)|(with_reducible refine Kd.C_drewN ?_ _)|(with_reducible refine Kd.C_drew ?_)));(case side4=>exact (Kd.R_reads' HO_10.out).2.1);rintro e w26 ⟨v1186,rfl,ho0,hb⟩;refine ⟨_,rfl,?_⟩;have HO1187:=Aside0.mk (Kd.R_lower (Kd.R_new' ho0 (Kd.R_lt (by (with_reducible repeat (first|apply Kd.R_alloc|apply Kd.R_drewN|apply Kd.R_drew));exact HO_10.out))) (Qq (by repeat (first|(with_reducible first|exact HB.out|apply Qc|apply Qa|apply Qd|refine Qe ?_ GE1176.out)|exact HB.out))));replace HO_10:=Aside0.mk (Kd.R_elder' (by (with_reducible repeat (first|apply Kd.R_alloc|apply Kd.R_drewN|apply Kd.R_drew));exact HO_10.out) (Kd.R_base ho0) hb);replace BK1176:=Aside0.mk (Qu (g:=gb1176) (o:= .cells #[.slice A0_0 l0_0.length c0_0] 26 (0,0)) (by (with_reducible repeat (first|refine Qg ?_ _|refine Qh ?_|refine Qf ?_ _));exact BK1176.out) hb);replace HB:=Aside0.mk (Qj (by repeat (first|(with_reducible first|exact HB.out|apply Qc|apply Qa|apply Qd|refine Qe ?_ GE1176.out)|exact HB.out)) hb);(try clear hb);(try clear hb2);(try clear hk);(try clear hi);(try clear ho0)));go_roundg k3
          case measure=>have:=HJ4.out;have:=HK2.out;have:=HK3.out;omega
          case rel=>exact ⟨(wrap64 (x3_3+1)),(t1185),(by first|rfl|(simp;done)|(simp [*];done)),H',⟨by have:=HJ4.out;have:=HK2.out;have:=HK3.out;omega⟩,⟨by (with_reducible repeat (first|apply Kd.R_alloc|apply Kd.R_drewN|apply Kd.R_drew));exact Kd.R_mono HO1187.out (fun _ hk=>trivial)⟩,⟨by (with_reducible repeat (first|refine Qg ?_ _|refine Qh ?_|refine Qf ?_ _));exact BK1176.out⟩,⟨by repeat (first|(with_reducible first|exact HB.out|apply Qc|apply Qa|apply Qd|refine Qe ?_ GE1176.out)|exact HB.out)⟩⟩
         ·
          rw [if_neg c22] at H;have c22b0:decide (x3_3<0)=false:=decide_eq_false c22;clear c22;simp only [Option.some.injEq,Prod.mk.injEq] at H;obtain ⟨rfl,rfl⟩:=H;go_wp2
          go_ret2
          exact ⟨_,by first|rfl|(simp [Qm,Ql] <;>rfl)|(simp [*,Qm,Ql] <;>rfl),by (with_reducible repeat (first|apply Kd.R_alloc|apply Kd.R_drewN|apply Kd.R_drew));exact HO_10.out,by repeat (first|(with_reducible first|exact HB.out|apply Qc|apply Qa|apply Qd|refine Qe ?_ GE1176.out)|exact HB.out)⟩
end Go.Proofs.Ytkgngggppcmpfaa.L
end
section
namespace Go.Proofs.Ytkgngggppcmpfaa.M
open Go.RowKit Go.Proofs.YtkgngggppcmpfaaW.PrintWords Go.Proofs.YtkgngggppcmpfaaW.PrintLast Go.Proofs.YtkgngggppcmpfaaW.PrintMore
theorem Qc1 {x : Int} (h0 : -9223372036854775808 ≤ x) (h1 : x ≤ 9223372036854775807) : wrap64 x = x := by unfold wrap64; omega
theorem Qck {i : Nat} (h : i < 9223372036854775807) : wrap64 ((i : Int) + 1) = ((i + 1 : Nat) : Int) := by unfold wrap64; omega
theorem Qd7 {l : List Int} {i : Nat} (h : i < l.length) : rd l (i : Int) = l[i] := by simp [rd, List.getD_eq_getElem?_getD, h]
theorem Qic {α : Type} {g : Nat → Option α} {r r' : α} (h : Ev g r) (h' : Ev g r') : r = r' := by
 obtain ⟨K, h⟩ := h; obtain ⟨K', h'⟩ := h'
 have a := h (max K K') (by omega); have b := h' (max K K') (by omega)
 exact Option.some.inj (a.symm.trans b)
theorem Qc5 {α : Type} {c : Prop} [Decidable c] {f g : Nat → Option α} {r : α} (h1 : c → Ev f r) (h2 : ¬ c → Ev g r) : Ev (fun k => if c then f k else g k) r := by
 by_cases h : c
 ·
  obtain ⟨K, hK⟩ := h1 h; exact ⟨K, fun k hk => by simp only [if_pos h]; exact hK k hk⟩
 ·
  obtain ⟨K, hK⟩ := h2 h; exact ⟨K, fun k hk => by simp only [if_neg h]; exact hK k hk⟩
theorem Qw {α : Type} {c : Prop} [Decidable c] {f g : Nat → Option α} {r : α} (h : c) (h1 : Ev f r) : Ev (fun k => if c then f k else g k) r := Qc5 (fun _ => h1) (fun h2 => absurd h h2)
theorem Qbw {α : Type} {c : Prop} [Decidable c] {f g : Nat → Option α} {r : α} (h : ¬ c) (h1 : Ev g r) : Ev (fun k => if c then f k else g k) r := Qc5 (fun h2 => absurd h2 h) (fun _ => h1)
theorem Qbo {α β : Type} {x : Option α} {a : α} {f : Nat → α → Option β} {r : β} (h : x = some a) (k : Ev (fun n => f n a) r) : Ev (fun n => x.bind (f n)) r := by subst h; simpa using k
def inB (x lo hi : Int) : Bool := decide (lo ≤ x) && decide (x ≤ hi)
theorem Qdj {x lo hi : Int} : inB x lo hi = true ↔ lo ≤ x ∧ x ≤ hi := by simp [inB]
def sd (a b : Nat) : Nat := a ^^^ (a &&& b)
theorem Qf3 (a b i : Nat) : (sd a b).testBit i = (a.testBit i && !b.testBit i) := by
 unfold sd; rw [Nat.testBit_xor, Nat.testBit_and]; cases a.testBit i <;> cases b.testBit i <;> rfl
theorem Qip {a b : Nat} : sd a b = 0 ↔ ∀ i, a.testBit i = true → b.testBit i = true := by
 constructor
 ·
  intro h i ha
  have := Qf3 a b i
  rw [h, Nat.zero_testBit, ha] at this
  cases hb : b.testBit i
  ·
   rw [hb] at this; simp at this
  ·
   rfl
 ·
  intro h
  apply Nat.eq_of_testBit_eq
  intro i
  rw [Qf3, Nat.zero_testBit]
  cases ha : a.testBit i
  ·
   rfl
  ·
   rw [h i ha]; rfl
theorem sd_le (a b : Nat) : sd a b ≤ a := by
 have e : sd a b = sd a b &&& a := by
  apply Nat.eq_of_testBit_eq
  intro i
  rw [Nat.testBit_and, Qf3]
  cases a.testBit i <;> cases b.testBit i <;> rfl
 rw [e]; exact Nat.and_le_right
theorem sd_lt {a : Nat} (b : Nat) {n : Nat} (h : a < 2 ^ n) : sd a b < 2 ^ n := Nat.lt_of_le_of_lt (sd_le a b) h
theorem Qgf {x : Nat} (h : x < 2 ^ 63) : IntKind.i64.wrap (x : Int) = (x : Int) := by
 rw [IntKind.wrap_i64]
 have : (x : Int) < 9223372036854775808 := by
  have h2 : (2 : Nat) ^ 63 = 9223372036854775808 := by decide
  omega
 omega
theorem Qek {a : Nat} (h : a < 2 ^ 63) : (BitVec.ofInt IntKind.i64.bits (a : Int)).toNat = a := by
 have e : IntKind.i64.bits = 64 := rfl
 rw [e, BitVec.ofInt_natCast, BitVec.toNat_ofNat]
 exact Nat.mod_eq_of_lt (Nat.lt_of_lt_of_le h (by decide))
theorem bits_or {a b : Nat} (ha : a < 2 ^ 63) (hb : b < 2 ^ 63) : Go.bits .or .i64 (a : Int) (b : Int) = ((a ||| b : Nat) : Int) := by
 simp only [Go.bits, BitVec.toNat_or, Qek ha, Qek hb]
 exact Qgf (Nat.or_lt_two_pow ha hb)
theorem bits_and {a b : Nat} (ha : a < 2 ^ 63) (hb : b < 2 ^ 63) : Go.bits .and .i64 (a : Int) (b : Int) = ((a &&& b : Nat) : Int) := by
 simp only [Go.bits, BitVec.toNat_and, Qek ha, Qek hb]
 exact Qgf (Nat.and_lt_two_pow _ hb)
theorem Qhd {a b : Nat} (ha : a < 2 ^ 63) (hb : b < 2 ^ 63) : Go.bits .andNot .i64 (a : Int) (b : Int) = ((sd a b : Nat) : Int) := by
 have e : (BitVec.ofInt IntKind.i64.bits (a : Int) &&& ~~~(BitVec.ofInt IntKind.i64.bits (b : Int))).toNat = sd a b := by
  apply Nat.eq_of_testBit_eq
  intro i
  rw [BitVec.toNat_and, Nat.testBit_and, Qek ha, Qf3]
  cases hai : a.testBit i
  ·
   rfl
  ·
   have hi : i < 64 := by
    apply Nat.lt_of_not_le; intro h
    have : a < 2 ^ i := Nat.lt_of_lt_of_le ha (Nat.pow_le_pow_right (by decide) (by omega))
    rw [Nat.testBit_lt_two_pow this] at hai; cases hai
   have e2 : (~~~(BitVec.ofInt IntKind.i64.bits (b : Int))).toNat.testBit i = (~~~(BitVec.ofInt IntKind.i64.bits (b : Int))).getLsbD i := rfl
   have e3 : (BitVec.ofInt IntKind.i64.bits (b : Int)).getLsbD i = b.testBit i := by
    show (BitVec.ofInt IntKind.i64.bits (b : Int)).toNat.testBit i = _
    rw [Qek hb]
   rw [e2, BitVec.getLsbD_not, e3]
   have : decide (i < IntKind.i64.bits) = true := decide_eq_true hi
   rw [this, Bool.true_and]
 simp only [Go.bits]
 rw [e]
 exact Qgf (sd_lt b ha)
theorem Qk5 {i : Nat} (h : i < 63) : shl .i64 1 (i : Int) = ((2 ^ i : Nat) : Int) := by
 unfold shl
 have e : min (i : Int).toNat IntKind.i64.bits = i := by
  have : IntKind.i64.bits = 64 := rfl
  rw [this, Int.toNat_natCast]; omega
 rw [e, Int.one_mul]
 have : ((2 : Int) ^ i) = ((2 ^ i : Nat) : Int) := by simp
 rw [this]
 exact Qgf (Nat.pow_lt_pow_right (by decide) h)
theorem Qkg {i : Nat} (h : i < 62) : wrap64 (shl .i64 1 (i : Int) - 1) = ((2 ^ i - 1 : Nat) : Int) := by
 rw [Qk5 (by omega)]
 have h1 : 0 < 2 ^ i := Nat.two_pow_pos i
 have h2 : 2 ^ i ≤ 2 ^ 62 := Nat.pow_le_pow_right (by decide) (by omega)
 have h3 : (2 : Nat) ^ 62 = 4611686018427387904 := by decide
 rw [Qc1 (by omega) (by omega)]; omega
theorem Qkw {a i : Nat} (h : i ≤ 64) : shr .i64 (a : Int) (i : Int) = ((a / 2 ^ i : Nat) : Int) := by
 unfold shr
 have e : min (i : Int).toNat IntKind.i64.bits = i := by
  have : IntKind.i64.bits = 64 := rfl
  rw [this, Int.toNat_natCast]; omega
 rw [e]; simp
theorem Qky {a i : Nat} (h : i ≤ 64) : (Int.tmod (shr .i64 (a : Int) (i : Int)) 2 == 1) = a.testBit i := by
 rw [Qkw h]
 have : Int.tmod ((a / 2 ^ i : Nat) : Int) 2 = ((a / 2 ^ i % 2 : Nat) : Int) := by
  rw [show (2 : Int) = ((2 : Nat) : Int) from rfl, Int.ofNat_tmod]
 rw [this, Nat.testBit_eq_decide_div_mod_eq, Bool.eq_iff_iff, beq_iff_eq, decide_eq_true_eq]
 omega
theorem Qj0 {a i : Nat} (h : i ≤ 64) : (Int.tmod (shr .i64 (a : Int) (i : Int)) 2 = 1) ↔ a.testBit i = true := by
 rw [← Qky h]; simp
theorem bit_and {a i : Nat} (ha : a < 2 ^ 63) (h : i ≤ 64) : (Go.bits .and .i64 (shr .i64 (a : Int) (i : Int)) 1 == 1) = a.testBit i := by
 rw [Qkw h, show (1 : Int) = ((1 : Nat) : Int) from rfl, bits_and (Nat.lt_of_le_of_lt (Nat.div_le_self _ _) ha) (by decide), Nat.and_one_is_mod, Nat.testBit_eq_decide_div_mod_eq, Bool.eq_iff_iff, beq_iff_eq, decide_eq_true_eq]
 omega
theorem Qe3 {a i n : Nat} (h : a < 2 ^ n) (hi : a.testBit i = true) : i < n := by
 apply Nat.lt_of_not_le; intro h2
 rw [Nat.testBit_lt_two_pow (Nat.lt_of_lt_of_le h (Nat.pow_le_pow_right (by decide) h2))] at hi; cases hi
theorem lt63 {a n : Nat} (h : a < 2 ^ n) (hn : n ≤ 63) : a < 2 ^ 63 := Nat.lt_of_lt_of_le h (Nat.pow_le_pow_right (by decide) hn)
end Go.Proofs.Ytkgngggppcmpfaa.M
end
section
namespace Go.Proofs.Ytkgngggppcmpfaa.M
set_option linter.unusedVariables false
open Go.RowKit Go.Proofs.YtkgngggppcmpfaaW.PrintWords Go.Proofs.YtkgngggppcmpfaaW.PrintLast Go.Proofs.YtkgngggppcmpfaaW.PrintMore
def toI (p : List Nat) : List Int := p.map fun (x : Nat) => (x : Int)
@[simp] theorem toI_len (p : List Nat) : (toI p).length = p.length := by simp [toI]
@[simp] theorem toI_nil : toI [] = [] := rfl
theorem Qg6 (p q : List Nat) : toI (p ++ q) = toI p ++ toI q := by simp [toI]
theorem Qg5 (x : Nat) : toI [x] = [(x : Int)] := rfl
theorem Qiq (p : List Nat) (i x : Nat) : (toI p).set i (x : Int) = toI (p.set i x) := by simp [toI, List.map_set]
theorem Qd1 (p : List Nat) (i : Nat) : rd (toI p) (i : Int) = ((p.getD i 0 : Nat) : Int) := by
 simp only [rd, toI, Int.toNat_natCast, List.getD_eq_getElem?_getD, List.getElem?_map]
 cases p[i]? <;> simp
theorem Qfa {p q : List Nat} (h : toI p = toI q) : p = q := by
 exact (List.map_inj_right (fun a b h => Int.ofNat.inj h)).mp h
def less (p : List Nat) (i : Nat) : Nat := p.getD i 0
theorem Qhm {p : List Nat} {i : Nat} (h : p.length ≤ i) : less p i = 0 := by simp [less, List.getD_eq_getElem?_getD, h]
theorem Qej (p : List Nat) (i : Nat) : rd (toI p) (i : Int) = ((less p i : Nat) : Int) := Qd1 p i
structure Good (p : List Nat) : Prop where
 pos : 1 ≤ p.length
 le : p.length ≤ 10
 lt : ∀ i, i < p.length → less p i < 2 ^ i
 tr : ∀ i, i < p.length → ∀ j, (less p i).testBit j = true → ∀ m, (less p j).testBit m = true → (less p i).testBit m = true
theorem Good.bit {p : List Nat} (g : Good p) {i j : Nat} (h : (less p i).testBit j = true) : j < i ∧ i < p.length := by
 have hi : i < p.length := by
  apply Nat.lt_of_not_le; intro h2; rw [Qhm h2, Nat.zero_testBit] at h; cases h
 exact ⟨Qe3 (g.lt i hi) h, hi⟩
theorem Good.lt10 {p : List Nat} (g : Good p) (i : Nat) : less p i < 2 ^ p.length := by
 by_cases hi : i < p.length
 ·
  exact Nat.lt_of_lt_of_le (g.lt i hi) (Nat.pow_le_pow_right (by decide) (by omega))
 ·
  rw [Qhm (by omega)]; exact Nat.two_pow_pos _
theorem Good.lt63 {p : List Nat} (g : Good p) (i : Nat) : less p i < 2 ^ 63 := M.lt63 (g.lt10 i) (by have := g.le; omega)
theorem Good.tr' {p : List Nat} (g : Good p) {i j m : Nat} (h1 : (less p i).testBit j = true) (h2 : (less p j).testBit m = true) : (less p i).testBit m = true := g.tr i (g.bit h1).2 j h1 m h2
def okAt (l : List Int) (i : Nat) : Bool := inB (l.getD i 0) 0 ((2 ^ i - 1 : Nat) : Int) && (List.range i).all fun j => !((l.getD i 0).toNat.testBit j) || sd (l.getD j 0).toNat (l.getD i 0).toNat == 0
theorem Qj3 (l : List Int) (i : Nat) : okAt l i = (inB (l.getD i 0) 0 ((2 ^ i - 1 : Nat) : Int) && (List.range i).all fun j => !((l.getD i 0).toNat.testBit j) || sd (l.getD j 0).toNat (l.getD i 0).toNat == 0) := rfl
def Qex (l : List Int) : Bool := inB (l.length : Int) 1 10 && (List.range' 0 l.length).all (okAt l)
theorem Qhr {l : List Int} {i : Nat} (h : okAt l i = true) : ∃ a : Nat, l.getD i 0 = (a : Int) ∧ a < 2 ^ i := by
 simp only [okAt, Bool.and_eq_true, Qdj] at h
 have := Nat.two_pow_pos i
 exact ⟨(l.getD i 0).toNat, by omega, by omega⟩
theorem Qhu {l : List Int} (h : Qex l = true) : ∃ p, l = toI p ∧ Good p := by
 simp only [Qex, Bool.and_eq_true, Qdj, List.all_eq_true, List.mem_range'_1] at h
 obtain ⟨⟨h1, h2⟩, h3⟩ := h
 have hn : ∀ i, i < l.length → okAt l i = true := fun i hi => h3 i (by omega)
 have e : l = toI (l.map Int.toNat) := by
  apply List.ext_getElem (by simp)
  intro i hi1 hi2
  obtain ⟨a, ha, _⟩ := Qhr (hn i hi1)
  have hg : l.getD i 0 = l[i] := by simp [List.getD_eq_getElem?_getD, hi1]
  simp only [toI, List.getElem_map]; omega
 refine ⟨l.map Int.toNat, e, ?_⟩
 have hl : ∀ i, less (l.map Int.toNat) i = (l.getD i 0).toNat := by
  intro i
  simp only [less, List.getD_eq_getElem?_getD, List.getElem?_map]
  cases l[i]? <;> simp
 refine ⟨by simp; omega, by simp; omega, fun i hi => ?_, fun i hi j hj m hm => ?_⟩
 ·
  obtain ⟨a, ha, hb⟩ := Qhr (hn i (by simpa using hi))
  rw [hl, ha]; simpa using hb
 ·
  have hi' : i < l.length := by simpa using hi
  have ho := hn i hi'
  obtain ⟨a, ha, hb⟩ := Qhr ho
  simp only [okAt, Bool.and_eq_true, List.all_eq_true, List.mem_range, Bool.or_eq_true, Bool.not_eq_true', beq_iff_eq] at ho
  rw [hl] at hj hm ⊢
  have hji : j < i := by rw [ha] at hj; exact Qe3 hb (by simpa using hj)
  rcases ho.2 j hji with hz | hz
  ·
   rw [hj] at hz; cases hz
  ·
   exact Qip.mp hz m hm
theorem Qgx {p : List Nat} (g : Good p) : Qex (toI p) = true := by
 simp only [Qex, Bool.and_eq_true, Qdj, List.all_eq_true, List.mem_range'_1, toI_len]
 have hl : ∀ i, (toI p).getD i 0 = (less p i : Int) := fun i => by
  have := Qej p i
  simpa [rd] using this
 have gp := g.pos
 have gl := g.le
 refine ⟨⟨by omega, by omega⟩, fun i hi => ?_⟩
 have hi' : i < p.length := by omega
 have h1 := g.lt i hi'
 simp only [okAt, Bool.and_eq_true, Qdj, List.all_eq_true, List.mem_range, Bool.or_eq_true, Bool.not_eq_true', beq_iff_eq, hl, Int.toNat_natCast]
 refine ⟨⟨by omega, by omega⟩, fun j hj => ?_⟩
 cases hb : (less p i).testBit j
 ·
  exact .inl rfl
 ·
  exact .inr (Qip.mpr fun m hm => g.tr i hi' j hb m hm)
def Qc7 (m : Nat) : List Nat := (List.range 10).filter fun e => m.testBit e
theorem Qgn {m e : Nat} : e ∈ Qc7 m ↔ e < 10 ∧ m.testBit e = true := by simp [Qc7]
theorem Qgw (m : Nat) : (Qc7 m).length ≤ 10 := by
 have := List.length_filter_le (fun e => m.testBit e) (List.range 10)
 simpa [Qc7] using this
def Qc2 {α : Type} (n s : Nat) (f : α → Nat → α) (a : α) : α := (List.range n).foldl (fun a e => if s.testBit e = true then f a e else a) a
theorem Qkp {α : Type} (s : Nat) (f : α → Nat → α) (a : α) : (Qc7 s).foldl f a = Qc2 10 s f a := by
 unfold Qc7 Qc2; rw [List.foldl_filter]
theorem Qij {α : Type} (s : Nat) (f : α → Nat → α) : ∀ (l : List Nat) (a : α), (∀ e ∈ l, s.testBit e = false) → l.foldl (fun a e => if s.testBit e = true then f a e else a) a = a
 | [], _, _ => rfl
 | x :: l, a, h => by
  rw [List.foldl_cons, if_neg (by rw [h x List.mem_cons_self]; simp)]
  exact Qij s f l a fun e he => h e (List.mem_cons_of_mem _ he)
theorem Qkr {α : Type} {n m s : Nat} (f : α → Nat → α) (a : α) (h : s < 2 ^ n) (hm : n ≤ m) : Qc2 m s f a = Qc2 n s f a := by
 unfold Qc2
 obtain ⟨d, rfl⟩ := Nat.exists_eq_add_of_le hm
 rw [List.range_add, List.foldl_append]
 apply Qij
 intro e he
 simp only [List.mem_map, List.mem_range] at he
 obtain ⟨x, _, rfl⟩ := he
 exact Nat.testBit_lt_two_pow (Nat.lt_of_lt_of_le h (Nat.pow_le_pow_right (by decide) (by omega)))
theorem Qjm {α : Type} {n s : Nat} (f : α → Nat → α) (a : α) (h : s < 2 ^ n) (hn : n ≤ 10) : (Qc7 s).foldl f a = Qc2 n s f a := by
 rw [Qkp, Qkr f a h hn]
theorem Qd4 {α : Type} (n s : Nat) (f : α → Nat → α) (a : α) : Qc2 (n + 1) s f a = if s.testBit n = true then f (Qc2 n s f a) n else Qc2 n s f a := by
 unfold Qc2; rw [List.range_succ, List.foldl_append]; rfl
theorem Qgq {α : Type} (n s : Nat) (f : α → Nat → α) (a : α) (I : α → Prop) (h0 : I a) (h : ∀ a e, I a → e < n → s.testBit e = true → I (f a e)) : I (Qc2 n s f a) := by
 induction n with
 | zero => exact h0
 | succ n ih =>
  have ih := ih fun a e ha he hs => h a e ha (by omega) hs
  rw [Qd4]
  split
  ·
   exact h _ _ ih (by omega) (by assumption)
  ·
   exact ih
def full (p : List Nat) : Nat := 2 ^ p.length - 1
theorem full_lt (p : List Nat) : full p < 2 ^ p.length := by have := Nat.two_pow_pos p.length; unfold full; omega
theorem full_bit (p : List Nat) (i : Nat) : (full p).testBit i = decide (i < p.length) := by unfold full; rw [Nat.testBit_two_pow_sub_one]
def close (p : List Nat) (s : Nat) : Nat := Qc2 p.length s (fun o e => o ||| less p e) s
theorem close_lt {p : List Nat} (g : Good p) {s : Nat} (h : s < 2 ^ p.length) : close p s < 2 ^ p.length :=
 Qgq _ _ _ _ (· < 2 ^ p.length) h (fun a e ha _ _ => Nat.or_lt_two_pow ha (g.lt10 e))
theorem Qib (p : List Nat) (s a i : Nat) : ∀ n, (Qc2 n s (fun o e => o ||| less p e) a).testBit i = true ↔ (a.testBit i = true ∨ ∃ e, e < n ∧ s.testBit e = true ∧ (less p e).testBit i = true)
 | 0 => by simp [Qc2]
 | n + 1 => by
  rw [Qd4]
  have ih := Qib p s a i n
  split
  ·
   rename_i hs
   rw [Nat.testBit_or, Bool.or_eq_true, ih]
   constructor
   ·
    rintro ((h | ⟨e, h1, h2, h3⟩) | h)
    ·
     exact .inl h
    ·
     exact .inr ⟨e, by omega, h2, h3⟩
    ·
     exact .inr ⟨n, by omega, hs, h⟩
   ·
    rintro (h | ⟨e, h1, h2, h3⟩)
    ·
     exact .inl (.inl h)
    ·
     by_cases he : e = n
     ·
      subst he; exact .inr h3
     ·
      exact .inl (.inr ⟨e, by omega, h2, h3⟩)
  ·
   rename_i hs
   rw [ih]
   constructor
   ·
    rintro (h | ⟨e, h1, h2, h3⟩)
    ·
     exact .inl h
    ·
     exact .inr ⟨e, by omega, h2, h3⟩
   ·
    rintro (h | ⟨e, h1, h2, h3⟩)
    ·
     exact .inl h
    ·
     by_cases he : e = n
     ·
      subst he; exact absurd h2 hs
     ·
      exact .inr ⟨e, by omega, h2, h3⟩
theorem Ql4 {p : List Nat} {s i : Nat} (h : s < 2 ^ p.length) : (close p s).testBit i = true ↔ (s.testBit i = true ∨ ∃ e, s.testBit e = true ∧ (less p e).testBit i = true) := by
 unfold close; rw [Qib]
 constructor
 ·
  rintro (h1 | ⟨e, _, h1⟩)
  ·
   exact .inl h1
  ·
   exact .inr ⟨e, h1⟩
 ·
  rintro (h1 | ⟨e, h1⟩)
  ·
   exact .inl h1
  ·
   exact .inr ⟨e, Qe3 h h1.1, h1⟩
def IsId (p : List Nat) (s : Nat) : Prop := s < 2 ^ p.length ∧ ∀ e, s.testBit e = true → ∀ i, (less p e).testBit i = true → s.testBit i = true
def Qfy (p : List Nat) (s : Nat) : Bool := (List.range' 0 p.length).all fun e => !(s.testBit e) || sd (less p e) s == 0
theorem Qh1 {p : List Nat} {s : Nat} (h : s < 2 ^ p.length) : Qfy p s = true ↔ IsId p s := by
 simp only [Qfy, IsId, List.all_eq_true, List.mem_range'_1, Bool.or_eq_true, Bool.not_eq_true', beq_iff_eq, Qip]
 constructor
 ·
  intro h1
  refine ⟨h, fun e he => ?_⟩
  rcases h1 e ⟨by omega, by have := Qe3 h he; omega⟩ with h2 | h2
  ·
   rw [he] at h2; cases h2
  ·
   exact h2
 ·
  rintro ⟨_, h1⟩ e _
  cases he : s.testBit e
  ·
   exact .inl rfl
  ·
   exact .inr (h1 e he)
end Go.Proofs.Ytkgngggppcmpfaa.M
end
section
namespace Go.Proofs.Ytkgngggppcmpfaa.M
open Go.RowKit Go.Proofs.YtkgngggppcmpfaaW.PrintWords Go.Proofs.YtkgngggppcmpfaaW.PrintLast Go.Proofs.YtkgngggppcmpfaaW.PrintMore Go.Proofs.Ytkgngggppcmpfaa.L
theorem Qer (x lo hi : Int) : Qcq.f x lo hi = some (inB x lo hi) := by
 unfold Qcq.f inB
 by_cases h : lo ≤ x <;> simp [h]
theorem Qd6 (x lo hi : Int) : Qcp.f x lo hi = some (inB x lo hi) := by
 unfold Qcp.f inB
 by_cases h : lo ≤ x <;> simp [h]
theorem Qkb (l : List Int) (lo hi : Int) (hl : l.length ≤ 9223372036854775806) : ∀ (d i : Nat), i + d = l.length → Ev (fun k => Qce.l0 k lo hi l (l.length : Int) i) ((l.drop i).all (inB · lo hi))
 | 0, i, h => by
  refine Ev.step (fun _ => rfl) (Qbw (by omega) ?_)
  rw [List.drop_of_length_le (by omega)]; exact Ev.now _
 | d + 1, i, h => by
  refine Ev.step (fun _ => rfl) (Qw (by omega) (Qw (by omega) (Qw (by omega) (Qbo (Qer _ _ _) ?_))))
  rw [Qd7 (by omega : i < l.length), Qck (by omega), List.drop_eq_getElem_cons (by omega : i < l.length), List.all_cons]
  refine Qc5 (fun e => ?_) (fun e => ?_)
  ·
   rw [e, Bool.true_and]; exact Qkb l lo hi hl d (i + 1) (by omega)
  ·
   rw [Bool.eq_false_iff.mpr e, Bool.false_and]; exact Ev.now _
theorem l1All_ev (l : List Int) (lo hi : Int) (hl : l.length ≤ 9223372036854775806) : Ev (fun k => Qce.f k l lo hi) (l.all (inB · lo hi)) := Qkb l lo hi hl l.length 0 (by omega)
end Go.Proofs.Ytkgngggppcmpfaa.M
end
section
namespace Go.Proofs.Ytkgngggppcmpfaa.M
open Go.RowKit Go.Proofs.YtkgngggppcmpfaaW.PrintWords Go.Proofs.YtkgngggppcmpfaaW.PrintLast Go.Proofs.YtkgngggppcmpfaaW.PrintMore Go.Proofs.Ytkgngggppcmpfaa.L
set_option linter.unusedVariables false
theorem Qjr {s e : Nat} (hs : s < 2 ^ 63) (he : e ≤ 64) : Qdi.f (s : Int) (e : Int) = some (s.testBit e) := by
 unfold Qdi.f; rw [if_pos (by omega), bit_and hs he]
theorem Qiu {s e : Nat} (he : e ≤ 64) : Qcr.f (s : Int) (e : Int) = some (s.testBit e) := by
 unfold Qcr.f; rw [if_pos (by omega), Qky he]
theorem Qhq (s : Nat) (hs : s < 2 ^ 63) : ∀ (d i : Nat) (acc : List Nat), i + d = 10 → acc.length ≤ i → Ev (fun k => Qbv.l0 k (s : Int) (toI acc) (i : Int)) (toI (acc ++ (List.range' i d).filter fun e => s.testBit e))
 | 0, i, acc, h, ha => by
  refine Ev.step (fun _ => Qbv.l0.eq_2 ..) (Qbw (by omega) ?_)
  simpa using Ev.now _
 | d + 1, i, acc, h, ha => by
  refine Ev.step (fun _ => Qbv.l0.eq_2 ..) (Qw (by omega) (Qbo (Qjr hs (by omega)) ?_))
  rw [Qck (by omega), List.range'_succ]
  refine Qc5 (fun e => Qw (by rw [toI_len]; omega) ?_) (fun e => ?_)
  ·
   rw [← Qg5, ← Qg6, List.filter_cons_of_pos e]
   have := Qhq s hs d (i + 1) (acc ++ [i]) (by omega) (by simp; omega)
   simpa using this
  ·
   rw [List.filter_cons_of_neg e]
   exact Qhq s hs d (i + 1) acc (by omega) (by omega)
theorem Qhk {s : Nat} (hs : s < 2 ^ 63) : Ev (fun k => Qbv.f k (s : Int)) (toI (Qc7 s)) := by
 have h := Qhq s hs 10 0 [] (by omega) (by simp)
 rw [List.nil_append, ← List.range_eq_range'] at h
 exact h
theorem n_eq (l : List Int) : Qch.f l = some (l.length : Int) := rfl
theorem Qi5 {m i : Nat} (hm : m < 2 ^ i) (hi : i ≤ 10) (g : Nat → Bool) : (Qc7 m).all g = (List.range i).all fun j => !(m.testBit j) || g j := by
 rw [Bool.eq_iff_iff]
 simp only [List.all_eq_true, Qgn, List.mem_range, Bool.or_eq_true, Bool.not_eq_true']
 constructor
 ·
  intro h j hj
  cases hb : m.testBit j
  ·
   exact .inl rfl
  ·
   exact .inr (h j ⟨by omega, hb⟩)
 ·
  rintro h j ⟨_, hb⟩
  rcases h j (Qe3 hm hb) with h2 | h2
  ·
   rw [hb] at h2; cases h2
  ·
   exact h2
theorem Qeh {i : Nat} (h : i ≤ 10) : 2 ^ i ≤ 1024 := by
 have := Nat.pow_le_pow_right (n := 2) (by decide) h
 simpa using this
theorem Qel (l : List Int) (i : Nat) : rd l (i : Int) = l.getD i 0 := by simp [rd]
theorem Qh8 (l : List Int) (i m : Nat) (R : Bool) (hl : l.length ≤ 10) (hi : i < l.length) (hm : m < 2 ^ i) (ok : ∀ j, j < i → ∃ a : Nat, l.getD j 0 = (a : Int) ∧ a < 2 ^ j)
  (hR : Ev (fun k => Qbm.l0 k l (l.length : Int) ((i + 1 : Nat) : Int) l) R) : ∀ (d q : Nat), q + d = (Qc7 m).length →
  Ev (fun k => Qbm.l1 k (m : Int) l (l.length : Int) (i : Int) (toI (Qc7 m)) ((toI (Qc7 m)).length : Int) (q : Int) l) (((Qc7 m).drop q).all (fun j => sd (l.getD j 0).toNat m == 0) && R)
 | 0, q, h => by
  refine Ev.step (fun _ => Qbm.l1.eq_2 ..) (Qbw (by rw [toI_len]; omega) ?_)
  rw [List.drop_of_length_le (by omega), List.all_nil, Bool.true_and, Qck (by omega)]
  exact hR
 | d + 1, q, h => by
  have hq : q < (Qc7 m).length := by omega
  have hj : (Qc7 m)[q] ∈ Qc7 m := List.getElem_mem hq
  obtain ⟨_, hb⟩ := Qgn.mp hj
  have hji := Qe3 hm hb
  obtain ⟨a, ha, ha2⟩ := ok _ hji
  have e1 : rd (toI (Qc7 m)) (q : Int) = (((Qc7 m)[q] : Nat) : Int) := by rw [Qd1]; simp [List.getD_eq_getElem?_getD, hq]
  have hlen := Qgw m
  have hp1 := Qeh (show i ≤ 10 by omega)
  have hp2 := Qeh (show (Qc7 m)[q] ≤ 10 by omega)
  refine Ev.step (fun _ => Qbm.l1.eq_2 ..) ?_
  rw [e1]
  refine Qw (by rw [toI_len]; omega) (Qw (by omega) (Qw (by rw [toI_len]; omega) (Qw (by omega) (Qw (by omega) ?_))))
  rw [Qel, ha, Qhd (lt63 ha2 (by omega)) (lt63 hm (by omega)), Qck (by omega), List.drop_eq_getElem_cons hq, List.all_cons, ha, Int.toNat_natCast]
  refine Qc5 (fun e => ?_) (fun e => ?_)
  ·
   have e' : sd a m = 0 := by omega
   rw [e', beq_self_eq_true, Bool.true_and]
   exact Qh8 l i m R hl hi hm ok hR d (q + 1) (by omega)
  ·
   have e' : (sd a m == 0) = false := by rw [beq_eq_false_iff_ne]; omega
   rw [e', Bool.false_and, Bool.false_and]
   exact Ev.now _
theorem Qhy (l : List Int) (hl : l.length ≤ 10) : ∀ (d i : Nat), i + d = l.length → (∀ j, j < i → ∃ a : Nat, l.getD j 0 = (a : Int) ∧ a < 2 ^ j) →
  Ev (fun k => Qbm.l0 k l (l.length : Int) (i : Int) l) ((List.range' i d).all (okAt l))
 | 0, i, h, ok => by
  refine Ev.step (fun _ => Qbm.l0.eq_2 ..) (Qbw (by omega) ?_)
  exact Ev.now _
 | d + 1, i, h, ok => by
  have hp1 := Qeh (show i ≤ 10 by omega)
  have hpos := Nat.two_pow_pos i
  refine Ev.step (fun _ => Qbm.l0.eq_2 ..) (Qw (by omega) (Qw (by omega) (Qw (by omega) (Qbo (Qd6 _ _ _) ?_))))
  rw [Qel, Qkg (by omega), List.range'_succ, List.all_cons, Qj3 l i]
  refine Qc5 (fun e => ?_) (fun e => ?_)
  ·
   have b := Qdj.mp e
   obtain ⟨m, hm⟩ : ∃ m : Nat, l.getD i 0 = (m : Int) := ⟨(l.getD i 0).toNat, by omega⟩
   rw [e, Bool.true_and, hm]
   have hm2 : m < 2 ^ i := by omega
   refine Ev.bind (Qhk (lt63 hm2 (by omega))) ?_
   have hnx := Qhy l hl d (i + 1) (by omega) (fun j hj => by
    by_cases hji : j = i
    ·
     subst hji; exact ⟨m, hm, hm2⟩
    ·
     exact ok j (by omega))
   have := Qh8 l i m _ hl (by omega) hm2 ok hnx (Qc7 m).length 0 (by omega)
   rw [List.drop_zero, Qi5 hm2 (by omega)] at this
   simpa using this
  ·
   rw [Bool.eq_false_iff.mpr e, Bool.false_and, Bool.false_and]
   exact Ev.now _
theorem Qid (l : List Int) : Ev (fun k => Qbm.f k l) (Qex l) := by
 refine Qbo (n_eq l) (Qbo (Qd6 _ _ _) ?_)
 unfold Qex
 refine Qc5 (fun e => ?_) (fun e => ?_)
 ·
  have b := Qdj.mp e
  rw [e, Bool.true_and]
  exact Qhy l (by omega) l.length 0 (by omega) (fun j hj => by omega)
 ·
  rw [Bool.eq_false_iff.mpr e, Bool.false_and]; exact Ev.now _
theorem Qi4 (l : List Int) (i m : Nat) (R : Bool) (hl : l.length ≤ 10) (hi : i < l.length) (hm : m < 2 ^ i) (ok : ∀ j, j < i → ∃ a : Nat, l.getD j 0 = (a : Int) ∧ a < 2 ^ j)
  (hR : Ev (fun k => Qbx.l0 k l (l.length : Int) ((i + 1 : Nat) : Int) l) R) : ∀ (d j : Nat), j + d = i →
  Ev (fun k => Qbx.l1 k (i : Int) (m : Int) (j : Int) l (l.length : Int) (i : Int) l) ((List.range' j d).all (fun j => !(m.testBit j) || sd (l.getD j 0).toNat m == 0) && R)
 | 0, j, h => by
  refine Ev.step (fun _ => Qbx.l1.eq_2 ..) (Qbw (by omega) ?_)
  rw [Qck (by omega)]
  simpa using hR
 | d + 1, j, h => by
  obtain ⟨a, ha, ha2⟩ := ok j (by omega)
  have hp1 := Qeh (show i ≤ 10 by omega)
  have hp2 := Qeh (show j ≤ 10 by omega)
  have ih := Qi4 l i m R hl hi hm ok hR d (j + 1) (by omega)
  refine Ev.step (fun _ => Qbx.l1.eq_2 ..) (Qw (by omega) (Qw (by omega) ?_))
  rw [Qck (by omega), List.range'_succ, List.all_cons, Qel, ha, Qhd (lt63 ha2 (by omega)) (lt63 hm (by omega)), Int.toNat_natCast]
  refine Qc5 (fun e => ?_) (fun e => ?_)
  ·
   rw [Qj0 (by omega)] at e
   rw [e, Bool.not_true, Bool.false_or]
   refine Qw (by omega) (Qc5 (fun e => ?_) (fun e => ?_))
   ·
    have e' : sd a m = 0 := by omega
    rw [e', beq_self_eq_true, Bool.true_and]; exact ih
   ·
    have e' : (sd a m == 0) = false := by rw [beq_eq_false_iff_ne]; omega
    rw [e', Bool.false_and, Bool.false_and]; exact Ev.now _
  ·
   rw [Qj0 (by omega)] at e
   rw [Bool.eq_false_iff.mpr e, Bool.not_false, Bool.true_or, Bool.true_and]; exact ih
theorem Qi9 (l : List Int) (hl : l.length ≤ 10) : ∀ (d i : Nat), i + d = l.length → (∀ j, j < i → ∃ a : Nat, l.getD j 0 = (a : Int) ∧ a < 2 ^ j) →
  Ev (fun k => Qbx.l0 k l (l.length : Int) (i : Int) l) ((List.range' i d).all (okAt l))
 | 0, i, h, ok => by
  refine Ev.step (fun _ => Qbx.l0.eq_2 ..) (Qbw (by omega) ?_)
  exact Ev.now _
 | d + 1, i, h, ok => by
  have hp1 := Qeh (show i ≤ 10 by omega)
  have hpos := Nat.two_pow_pos i
  refine Ev.step (fun _ => Qbx.l0.eq_2 ..) (Qw (by omega) (Qw (by omega) (Qw (by omega) (Qbo (Qer _ _ _) ?_))))
  rw [Qel, Qkg (by omega), List.range'_succ, List.all_cons, Qj3 l i]
  refine Qc5 (fun e => ?_) (fun e => ?_)
  ·
   have b := Qdj.mp e
   obtain ⟨m, hm⟩ : ∃ m : Nat, l.getD i 0 = (m : Int) := ⟨(l.getD i 0).toNat, by omega⟩
   rw [e, Bool.true_and, hm]
   have hm2 : m < 2 ^ i := by omega
   have hnx := Qi9 l hl d (i + 1) (by omega) (fun j hj => by
    by_cases hji : j = i
    ·
     subst hji; exact ⟨m, hm, hm2⟩
    ·
     exact ok j (by omega))
   have := Qi4 l i m _ hl (by omega) hm2 ok hnx i 0 (by omega)
   simpa [List.range_eq_range'] using this
  ·
   rw [Bool.eq_false_iff.mpr e, Bool.false_and, Bool.false_and]
   exact Ev.now _
theorem Qlz (l : List Int) : Ev (fun k => Qbx.f k l) (Qex l) := by
 refine Qbo (Qer _ _ _) ?_
 unfold Qex
 refine Qc5 (fun e => ?_) (fun e => ?_)
 ·
  have b := Qdj.mp e
  rw [e, Bool.true_and]
  exact Qi9 l (by omega) l.length 0 (by omega) (fun j hj => by omega)
 ·
  rw [Bool.eq_false_iff.mpr e, Bool.false_and]; exact Ev.now _
theorem Qfm (p : List Nat) : (toI p).map Int.toNat = p := by
 simp only [toI, List.map_map]
 exact (List.map_congr_left (fun x _ => by simp)).trans (List.map_id p)
theorem Qi8 {m q : Nat} (hq : q < (Qc7 m).length) : (Qc7 m)[q] < 10 ∧ m.testBit (Qc7 m)[q] = true := Qgn.mp (List.getElem_mem hq)
theorem Qkj {m q : Nat} (hq : q < (Qc7 m).length) : rd (toI (Qc7 m)) (q : Int) = (((Qc7 m)[q] : Nat) : Int) := by rw [Qd1]; simp [List.getD_eq_getElem?_getD, hq]
def Qfw (p : List Nat) (x : List Int) (i : Nat) : Bool := (List.range i).all fun j => !((less p i).testBit j) || decide (x.getD j 0 ≤ x.getD i 0)
def arrB (p : List Nat) (x : List Int) (b : Int) : Bool := x.all (inB · 0 b) && (List.range' 0 p.length).all (Qfw p x)
structure Arr (p y : List Nat) (b : Nat) : Prop where
 len : y.length = p.length
 hi : ∀ i, y.getD i 0 ≤ b
 up : ∀ i j, (less p i).testBit j = true → y.getD j 0 ≤ y.getD i 0
theorem Qls {x : List Int} {b : Int} (h : x.all (inB · 0 b) = true) : x = toI (x.map Int.toNat) := by
 simp only [List.all_eq_true, Qdj] at h
 simp only [toI, List.map_map]
 conv => lhs; rw [← List.map_id x]
 apply List.map_congr_left
 intro a ha
 have := h a ha
 simp; omega
theorem Qhj (y : List Nat) (i : Nat) : (toI y).getD i 0 = ((y.getD i 0 : Nat) : Int) := by
 have := Qd1 y i
 simpa [rd] using this
theorem getD_mem {y : List Nat} {i : Nat} (h : i < y.length) : y.getD i 0 ∈ y := by
 rw [List.getD_eq_getElem?_getD, List.getElem?_eq_getElem h]; exact List.getElem_mem h
theorem arrB_of {p : List Nat} {x : List Int} {b : Nat} (g : Good p) (hl : x.length = p.length) (h : arrB p x (b : Int) = true) : ∃ y, x = toI y ∧ Arr p y b := by
 simp only [arrB, Bool.and_eq_true] at h
 have e := Qls h.1
 refine ⟨x.map Int.toNat, e, by simpa using hl, fun i => ?_, fun i j hj => ?_⟩
 ·
  have h1 := h.1
  simp only [List.all_eq_true, Qdj] at h1
  by_cases hi : i < (x.map Int.toNat).length
  ·
   obtain ⟨a, ha, e2⟩ := List.mem_map.mp (getD_mem hi)
   have := h1 a ha
   omega
  ·
   rw [List.getD_eq_getElem?_getD, List.getElem?_eq_none (by omega)]; simp
 ·
  have hb := g.bit hj
  have h2 := h.2
  simp only [List.all_eq_true, List.mem_range'_1, Qfw, List.mem_range, Bool.or_eq_true, Bool.not_eq_true', decide_eq_true_eq] at h2
  rcases h2 i ⟨by omega, by omega⟩ j hb.1 with h3 | h3
  ·
   rw [hj] at h3; cases h3
  ·
   rw [e, Qhj, Qhj] at h3; omega
theorem Qlb {p y : List Nat} {b : Nat} (h : Arr p y b) : arrB p (toI y) (b : Int) = true := by
 simp only [arrB, Bool.and_eq_true, List.all_eq_true, List.mem_range'_1, Qfw, List.mem_range, Bool.or_eq_true, Bool.not_eq_true', decide_eq_true_eq, Qdj, Qhj]
 refine ⟨fun a ha => ?_, fun i hi j hj => ?_⟩
 ·
  obtain ⟨n, hn, rfl⟩ := List.mem_map.mp ha
  obtain ⟨i, hi, rfl⟩ := List.mem_iff_getElem.mp hn
  have := h.hi i
  rw [List.getD_eq_getElem?_getD, List.getElem?_eq_getElem hi] at this
  simp at this
  exact ⟨by omega, by omega⟩
 ·
  cases hb : (less p i).testBit j
  ·
   exact .inl rfl
  ·
   exact .inr (by have := h.up i j hb; omega)
def Qdv (l x : List Int) (b : Int) : Bool := Qex l && inB b 0 20 && decide (x.length = l.length) && arrB (l.map Int.toNat) x b
theorem Qe5 {l x : List Int} {b : Int} (h : Qdv l x b = true) : ∃ (p y : List Nat) (c : Nat), l = toI p ∧ x = toI y ∧ b = (c : Int) ∧ Good p ∧ c ≤ 20 ∧ Arr p y c := by
 simp only [Qdv, Bool.and_eq_true, decide_eq_true_eq, Qdj] at h
 obtain ⟨⟨⟨h1, h2⟩, h3⟩, h4⟩ := h
 obtain ⟨p, rfl, g⟩ := Qhu h1
 obtain ⟨c, rfl⟩ : ∃ c : Nat, b = (c : Int) := ⟨b.toNat, by omega⟩
 rw [Qfm] at h4
 obtain ⟨y, rfl, ha⟩ := arrB_of g (by simpa using h3) h4
 exact ⟨p, y, c, rfl, rfl, rfl, g, by omega, ha⟩
theorem Qgt {p y : List Nat} {b : Nat} (g : Good p) (hb : b ≤ 20) (h : Arr p y b) : Qdv (toI p) (toI y) (b : Int) = true := by
 simp only [Qdv, Bool.and_eq_true, decide_eq_true_eq, Qdj]
 refine ⟨⟨⟨Qgx g, by omega, by omega⟩, by simpa using h.len⟩, ?_⟩
 rw [Qfm]; exact Qlb h
theorem Qll (b : Int) : Qdd.f b = some (inB b 0 20) := by simp [Qdd.f, Qer]
theorem Qi3 (l : List Int) (b : Int) : Ev (fun k => Qcz.f k l b) (Qex l && inB b 0 20) := by
 refine Ev.bind (Qid l) (Qc5 (fun e => ?_) (fun e => ?_))
 ·
  rw [e, Bool.true_and]; exact Qbo (Qd6 _ _ _) (Ev.now _)
 ·
  rw [Bool.eq_false_iff.mpr e, Bool.false_and]; exact Ev.now _
theorem Qim {p : List Nat} (g : Good p) (x : List Int) (hx : x.length = p.length) (i : Nat) (hi : i < p.length) (R : Bool) (hR : Ev (fun k => Qbr.l0 k x (toI p) ((toI p).length : Int) ((i + 1 : Nat) : Int)) R) : ∀ (d j : Nat), j + d = i →
  Ev (fun k => Qbr.l1 k x (i : Int) ((less p i : Nat) : Int) (j : Int) (toI p) ((toI p).length : Int) (i : Int)) ((List.range' j d).all (fun j => !((less p i).testBit j) || decide (x.getD j 0 ≤ x.getD i 0)) && R)
 | 0, j, h => by
  refine Ev.step (fun _ => Qbr.l1.eq_2 ..) (Qbw (by omega) ?_)
  rw [Qck (by have := g.le; omega)]; simpa using hR
 | d + 1, j, h => by
  have gl := g.le
  have ih := Qim g x hx i hi R hR d (j + 1) (by omega)
  refine Ev.step (fun _ => Qbr.l1.eq_2 ..) (Qw (by omega) (Qbo (Qiu (by omega)) ?_))
  rw [Qck (by omega), List.range'_succ, List.all_cons, Qel, Qel]
  refine Qc5 (fun e => ?_) (fun e => ?_)
  ·
   rw [e, Bool.not_true, Bool.false_or]
   refine Qw (by omega) (Qw (by omega) (Qw (by omega) (Qw (by omega) (Qc5 (fun e => ?_) (fun e => ?_)))))
   ·
    rw [decide_eq_false (by omega), Bool.false_and, Bool.false_and]; exact Ev.now _
   ·
    rw [decide_eq_true (by omega), Bool.true_and]; exact ih
  ·
   rw [Bool.eq_false_iff.mpr e, Bool.not_false, Bool.true_or, Bool.true_and]; exact ih
theorem Qh3 {p : List Nat} (g : Good p) (x : List Int) (hx : x.length = p.length) : ∀ (d i : Nat), i + d = p.length →
  Ev (fun k => Qbr.l0 k x (toI p) ((toI p).length : Int) (i : Int)) ((List.range' i d).all (Qfw p x))
 | 0, i, h => Ev.step (fun _ => Qbr.l0.eq_2 ..) (Qbw (by rw [toI_len]; omega) (Ev.now _))
 | d + 1, i, h => by
  refine Ev.step (fun _ => Qbr.l0.eq_2 ..) (Qw (by rw [toI_len]; omega) (Qw (by omega) (Qw (by rw [toI_len]; omega) ?_)))
  rw [Qej, List.range'_succ, List.all_cons]
  have := Qim g x hx i (by omega) _ (Qh3 g x hx d (i + 1) (by omega)) i 0 (by omega)
  rw [← List.range_eq_range'] at this
  exact this
theorem Qlt {p : List Nat} (g : Good p) (x : List Int) (b : Int) (hx : x.length = p.length) : Ev (fun k => Qbr.f k (toI p) x b) (arrB p x b) := by
 refine Ev.bind (l1All_ev x 0 b (by have := g.le; omega)) ?_
 unfold arrB
 refine Qc5 (fun e => ?_) (fun e => ?_)
 ·
  rw [e, Bool.true_and]; exact Qh3 g x hx p.length 0 (by omega)
 ·
  rw [Bool.eq_false_iff.mpr e, Bool.false_and]; exact Ev.now _
theorem Qgl {p : List Nat} (g : Good p) (x : List Int) (b : Nat) (hb : b ≤ 1000) (hx : x.length = p.length) (i : Nat) (hi : i < p.length) (ok : ∀ j, j < i → inB (x.getD j 0) 0 (b : Int) = true) (R : Bool)
  (hR : Ev (fun k => Q1.l0 k x (b : Int) 0 x (x.length : Int) ((i + 1 : Nat) : Int) (toI p)) R) : ∀ (d q : Nat), q + d = (Qc7 (less p i)).length →
  Ev (fun k => Q1.l1 k x (b : Int) 0 (x.getD i 0) x (x.length : Int) (i : Int) (toI (Qc7 (less p i))) ((toI (Qc7 (less p i))).length : Int) (q : Int) (toI p)) (((Qc7 (less p i)).drop q).all (fun j => decide (x.getD j 0 ≤ x.getD i 0)) && R)
 | 0, q, h => by
  refine Ev.step (fun _ => Q1.l1.eq_2 ..) (Qbw (by rw [toI_len]; omega) ?_)
  rw [List.drop_of_length_le (by omega), Qck (by have := g.le; omega)]; simpa using hR
 | d + 1, q, h => by
  have hq : q < (Qc7 (less p i)).length := by omega
  have hm := Qi8 hq
  have hj := g.bit hm.2
  have gl := g.le
  have hl := Qgw (less p i)
  have ok' := Qdj.mp (ok _ hj.1)
  have ih := Qgl g x b hb hx i hi ok R hR d (q + 1) (by omega)
  refine Ev.step (fun _ => Q1.l1.eq_2 ..) ?_
  rw [Qkj hq, Qel, Qck (by omega), Int.add_zero, Qc1 (by omega) (by omega), List.drop_eq_getElem_cons hq, List.all_cons]
  refine Qw (by rw [toI_len]; omega) (Qw (by omega) (Qw (by rw [toI_len]; omega) (Qw (by omega) (Qw (by omega) (Qc5 (fun e => ?_) (fun e => ?_))))))
  ·
   rw [decide_eq_false (by omega), Bool.false_and, Bool.false_and]; exact Ev.now _
  ·
   rw [decide_eq_true (by omega), Bool.true_and]; exact ih
theorem Qgu {p : List Nat} (g : Good p) (x : List Int) (b : Nat) (hb : b ≤ 1000) (hx : x.length = p.length) : ∀ (d i : Nat), i + d = p.length → (∀ j, j < i → inB (x.getD j 0) 0 (b : Int) = true) →
  Ev (fun k => Q1.l0 k x (b : Int) 0 x (x.length : Int) (i : Int) (toI p)) ((List.range' i d).all (fun i => inB (x.getD i 0) 0 (b : Int) && Qfw p x i))
 | 0, i, h, ok => Ev.step (fun _ => Q1.l0.eq_2 ..) (Qbw (by omega) (Ev.now _))
 | d + 1, i, h, ok => by
  have gl := g.le
  refine Ev.step (fun _ => Q1.l0.eq_2 ..) (Qw (by omega) (Qw (by omega) (Qw (by omega) (Qbo (Qd6 _ _ _) ?_))))
  rw [Qel, List.range'_succ, List.all_cons]
  refine Qc5 (fun e => ?_) (fun e => ?_)
  ·
   rw [e, Bool.true_and]
   refine Qw (by rw [toI_len]; omega) ?_
   rw [Qej]
   refine Ev.bind (Qhk (g.lt63 i)) ?_
   have hn := Qgu g x b hb hx d (i + 1) (by omega) (fun j hj => by
    by_cases hji : j = i
    ·
     subst hji; exact e
    ·
     exact ok j (by omega))
   have := Qgl g x b hb hx i (by omega) ok _ hn (Qc7 (less p i)).length 0 (by omega)
   rw [List.drop_zero, Qi5 (g.lt i (by omega)) (by omega)] at this
   exact this
  ·
   rw [Bool.eq_false_iff.mpr e, Bool.false_and, Bool.false_and]; exact Ev.now _
theorem Qgs {p : List Nat} (g : Good p) (x : List Int) (b : Nat) (hb : b ≤ 1000) (hx : x.length = p.length) : Ev (fun k => Q1.f k (toI p) x (b : Int) 0) (arrB p x (b : Int)) := by
 refine Qbo (n_eq _) (Qw (by rw [toI_len]; omega) ?_)
 have h := Qgu g x b hb hx p.length 0 (by omega) (fun j hj => by omega)
 have e : (List.range' 0 p.length).all (fun i => inB (x.getD i 0) 0 (b : Int) && Qfw p x i) = arrB p x (b : Int) := by
  unfold arrB
  rw [Bool.eq_iff_iff]
  simp only [Bool.and_eq_true, List.all_eq_true, List.mem_range'_1]
  constructor
  ·
   intro h2
   refine ⟨fun a ha => ?_, fun i hi => (h2 i hi).2⟩
   obtain ⟨i, hi, rfl⟩ := List.mem_iff_getElem.mp ha
   have := (h2 i ⟨by omega, by omega⟩).1
   simpa [List.getD_eq_getElem?_getD, hi] using this
  ·
   rintro ⟨h1, h2⟩ i hi
   refine ⟨h1 _ ?_, h2 i hi⟩
   have hi' : i < x.length := by omega
   rw [List.getD_eq_getElem?_getD, List.getElem?_eq_getElem hi']; exact List.getElem_mem hi'
 rw [← e]; exact h
theorem Qdh (l x : List Int) (b : Int) : Ev (fun k => Qb9.f k l x b) (Qdv l x b) := by
 refine Ev.bind (Qi3 l b) ?_
 unfold Qdv
 refine Qc5 (fun e => ?_) (fun e => ?_)
 ·
  rw [e, Bool.true_and]
  simp only [Bool.and_eq_true, Qdj] at e
  obtain ⟨p, rfl, g⟩ := Qhu e.1
  obtain ⟨c, rfl⟩ : ∃ c : Nat, b = (c : Int) := ⟨b.toNat, by omega⟩
  rw [Qfm, toI_len]
  by_cases hx : x.length = p.length
  ·
   rw [decide_eq_true hx, Bool.true_and]
   exact Ev.bind (Qgs g x c (by omega) hx) (Ev.now _)
  ·
   rw [decide_eq_false hx, Bool.false_and]
   exact Ev.bind (Qbo (n_eq _) (Qbw (by rw [toI_len]; omega) (Ev.now false))) (Ev.now _)
 ·
  rw [Bool.eq_false_iff.mpr e, Bool.false_and, Bool.false_and]; exact Ev.now _
theorem Qee (l x : List Int) (b : Int) : Ev (fun k => Qcm.f k l x b) (Qdv l x b) := by
 refine Ev.bind (Qlz l) ?_
 unfold Qdv
 refine Qc5 (fun e => ?_) (fun e => ?_)
 ·
  obtain ⟨p, rfl, g⟩ := Qhu e
  rw [e, Bool.true_and, Qfm, toI_len]
  refine Qbo (Qll b) (Qc5 (fun e => ?_) (fun e => ?_))
  ·
   rw [e, Bool.true_and]
   refine Qc5 (fun e => ?_) (fun e => ?_)
   ·
    rw [decide_eq_true (by omega), Bool.true_and]
    exact Ev.bind (Qlt g x b (by omega)) (Ev.now _)
   ·
    rw [decide_eq_false (by omega), Bool.false_and]; exact Ev.now _
  ·
   rw [Bool.eq_false_iff.mpr e, Bool.false_and, Bool.false_and]; exact Ev.now _
 ·
  rw [Bool.eq_false_iff.mpr e]; simpa using Ev.now false
def lowN (p y : List Nat) (e : Nat) : Nat := Qc2 p.length (less p e) (fun o j => max o (y.getD j 0)) 0
def Qdy (p y : List Nat) (b e : Nat) : Nat := (List.range' 0 p.length).foldl (fun o i => if (less p i).testBit e = true then min o (y.getD i 0) else o) b
theorem mx_nat (a b : Nat) : mx (a : Int) (b : Int) = ((max a b : Nat) : Int) := by unfold mx; split <;> omega
theorem mn_nat (a b : Nat) : mn (a : Int) (b : Int) = ((min a b : Nat) : Int) := by unfold mn; split <;> omega
theorem Qlk (a b : Nat) : Qcl.f (a : Int) (b : Int) = some ((max a b : Nat) : Int) := by unfold Qcl.f; split <;> (congr 1; omega)
theorem Qks (a b : Nat) : Qc0.f (a : Int) (b : Int) = some ((min a b : Nat) : Int) := by unfold Qc0.f; split <;> (congr 1; omega)
theorem Qgd {p y : List Nat} (g : Good p) (hy : y.length = p.length) (e : Nat) (he : e < p.length) : ∀ (d i lo hi : Nat), i + d = p.length →
  Ev (fun k => Qbs.l0 k (toI y) (e : Int) (lo : Int) (hi : Int) (p.length : Int) (i : Int) (toI p))
   ((((List.range' i d).foldl (fun o j => if (less p e).testBit j = true then max o (y.getD j 0) else o) lo : Nat) : Int), (((List.range' i d).foldl (fun o i => if (less p i).testBit e = true then min o (y.getD i 0) else o) hi : Nat) : Int))
 | 0, i, lo, hi, h => Ev.step (fun _ => Qbs.l0.eq_2 ..) (Qbw (by omega) (Ev.now _))
 | d + 1, i, lo, hi, h => by
  have gl := g.le
  have key : ∀ lo' : Nat, Ev (fun k => Qbs.j1 k (toI y) (e : Int) (lo' : Int) (hi : Int) (i : Int) (p.length : Int) (i : Int) (toI p))
    ((((List.range' (i + 1) d).foldl (fun o j => if (less p e).testBit j = true then max o (y.getD j 0) else o) lo' : Nat) : Int), (((List.range' i (d + 1)).foldl (fun o i => if (less p i).testBit e = true then min o (y.getD i 0) else o) hi : Nat) : Int)) := by
   intro lo'
   refine Ev.step (fun _ => Qbs.j1.eq_2 ..) (Qw (by omega) (Qw (by rw [toI_len]; omega) ?_))
   rw [Qej]
   refine Qbo (Qiu (by omega)) ?_
   rw [List.range'_succ, List.foldl_cons, Qck (by omega)]
   refine Qc5 (fun e1 => ?_) (fun e1 => ?_)
   ·
    rw [if_pos e1, Qd1]
    exact Qw (by rw [toI_len]; omega) (Qbo (Qks _ _) (Qgd g hy e he d (i + 1) lo' _ (by omega)))
   ·
    rw [if_neg e1]; exact Qgd g hy e he d (i + 1) lo' _ (by omega)
  refine Ev.step (fun _ => Qbs.l0.eq_2 ..) (Qw (by omega) (Qw (by omega) (Qw (by rw [toI_len]; omega) ?_)))
  rw [Qej]
  refine Qbo (Qiu (by omega)) ?_
  rw [show (List.range' i (d + 1)).foldl (fun o j => if (less p e).testBit j = true then max o (y.getD j 0) else o) lo = (List.range' (i + 1) d).foldl (fun o j => if (less p e).testBit j = true then max o (y.getD j 0) else o) (if (less p e).testBit i = true then max lo (y.getD i 0) else lo) by rw [List.range'_succ, List.foldl_cons]]
  refine Qc5 (fun e1 => ?_) (fun e1 => ?_)
  ·
   rw [if_pos e1, Qd1]
   exact Qw (by omega) (Qw (by rw [toI_len]; omega) (Qbo (Qlk _ _) (key _)))
  ·
   rw [if_neg e1]; exact key lo
theorem Qlr {p y : List Nat} (g : Good p) (hy : y.length = p.length) (b e : Nat) (he : e < p.length) : Ev (fun k => Qbs.f k (toI p) (toI y) (b : Int) (e : Int)) (((lowN p y e : Nat) : Int), ((Qdy p y b e : Nat) : Int)) := by
 have h := Qgd g hy e he p.length 0 0 b (by omega)
 unfold Qbs.f lowN Qdy Qc2
 rw [toI_len, List.range_eq_range']; exact h
theorem Qhp {p y : List Nat} (g : Good p) (hy : y.length = p.length) (e lo : Nat) (he : e < p.length) : ∀ (d i hi : Nat), i + d = p.length →
  Ev (fun k => Q9.l1 k (toI y) (e : Int) (lo : Int) (hi : Int) (p.length : Int) (i : Int) (toI p)) ((lo : Int), (((List.range' i d).foldl (fun o i => if (less p i).testBit e = true then min o (y.getD i 0) else o) hi : Nat) : Int))
 | 0, i, hi, h => Ev.step (fun _ => Q9.l1.eq_2 ..) (Qbw (by omega) (Ev.now _))
 | d + 1, i, hi, h => by
  have gl := g.le
  refine Ev.step (fun _ => Q9.l1.eq_2 ..) (Qw (by omega) (Qw (by omega) (Qw (by rw [toI_len]; omega) ?_)))
  rw [Qej]
  refine Qbo (Qjr (g.lt63 _) (by omega)) ?_
  rw [List.range'_succ, List.foldl_cons, Qck (by omega)]
  refine Qc5 (fun e1 => ?_) (fun e1 => ?_)
  ·
   rw [if_pos e1, Qd1, mn_nat]
   exact Qw (by rw [toI_len]; omega) (Qhp g hy e lo he d (i + 1) _ (by omega))
  ·
   rw [if_neg e1]; exact Qhp g hy e lo he d (i + 1) hi (by omega)
theorem Qke {p y : List Nat} (g : Good p) (hy : y.length = p.length) (e b : Nat) (he : e < p.length) : ∀ (d q lo : Nat), q + d = (Qc7 (less p e)).length →
  Ev (fun k => Q9.l0 k (toI y) (e : Int) (lo : Int) (b : Int) (toI (Qc7 (less p e))) ((toI (Qc7 (less p e))).length : Int) (q : Int) (toI p)) (((((Qc7 (less p e)).drop q).foldl (fun o j => max o (y.getD j 0)) lo : Nat) : Int), ((Qdy p y b e : Nat) : Int))
 | 0, q, lo, h => by
  refine Ev.step (fun _ => Q9.l0.eq_2 ..) (Qbw (by rw [toI_len]; omega) (Qbo (n_eq _) ?_))
  rw [List.drop_of_length_le (by omega), toI_len]
  exact Qhp g hy e lo he p.length 0 b (by omega)
 | d + 1, q, lo, h => by
  have hq : q < (Qc7 (less p e)).length := by omega
  have hm := Qi8 hq
  have hj := g.bit hm.2
  have gl := g.le
  have hl := Qgw (less p e)
  refine Ev.step (fun _ => Q9.l0.eq_2 ..) ?_
  rw [Qkj hq, Qd1, mx_nat, Qck (by omega), List.drop_eq_getElem_cons hq, List.foldl_cons]
  exact Qw (by rw [toI_len]; omega) (Qw (by omega) (Qw (by rw [toI_len]; omega) (Qw (by omega) (Qw (by rw [toI_len]; omega) (Qke g hy e b he d (q + 1) _ (by omega))))))
theorem reach_ev {p y : List Nat} (g : Good p) (hy : y.length = p.length) (b e : Nat) (he : e < p.length) : Ev (fun k => Q9.f k (toI p) (toI y) (b : Int) (e : Int)) (((lowN p y e : Nat) : Int), ((Qdy p y b e : Nat) : Int)) := by
 have h := Qke g hy e b he (Qc7 (less p e)).length 0 0 (by omega)
 rw [List.drop_zero, Qjm _ _ (g.lt10 e) g.le] at h
 unfold Q9.f
 refine Qw (by omega) (Qw (by rw [toI_len]; omega) ?_)
 rw [Qej]
 exact Ev.bind (Qhk (g.lt63 e)) h
theorem Qeq (l : List Int) (h : l.length < 17592186044416) : Qco.f l = some l := by
 unfold Qco.f; rw [Option.bind_some, if_pos (by simpa using h)]; rfl
theorem Qd0 (l : List Int) (h : l.length < 17592186044416) : Qb5.f l = some l := by unfold Qb5.f; rw [if_pos h]
theorem Qhb (n : Nat) (hn : n ≤ 1000) : ∀ (d i : Nat) (acc : List Nat), i + d = n → acc.length = i → Ev (fun k => Qbn.l0 k (toI acc) (n : Int) (i : Int)) (toI (acc ++ List.range' i d))
 | 0, i, acc, h, ha => by
  refine Ev.step (fun _ => Qbn.l0.eq_2 ..) (Qbw (by omega) ?_)
  simpa using Ev.now _
 | d + 1, i, acc, h, ha => by
  refine Ev.step (fun _ => Qbn.l0.eq_2 ..) (Qw (by omega) (Qw (by rw [toI_len]; omega) ?_))
  rw [Qck (by omega), ← Qg5, ← Qg6, List.range'_succ]
  have := Qhb n hn d (i + 1) (acc ++ [i]) (by omega) (by simp [ha])
  simpa using this
theorem Qet (n : Nat) (hn : n ≤ 1000) : Ev (fun k => Qbn.f k (n : Int)) (toI (List.range n)) := by
 have := Qhb n hn n 0 [] (by omega) rfl
 rw [List.nil_append, ← List.range_eq_range'] at this; exact this
theorem Qii (l : List Int) (hl : l.length ≤ 1000000) : ∀ (d i j : Nat) (x : List Int), i + j + 1 = l.length → j + 1 ≤ i + d → (hx : x.length = l.length) →
  (∀ t (h : t < x.length), x[t] = if t < i ∨ j < t then l[l.length - 1 - t]'(by omega) else l[t]'(by omega)) → Ev (fun k => Qy.l0 k x (i : Int) (j : Int)) l.reverse
 | 0, i, j, x, h, hd, hx, ht => by
  refine Ev.step (fun _ => Qy.l0.eq_2 ..) (Qbw (by omega) ?_)
  have e : x = l.reverse := by
   apply List.ext_getElem (by simpa using hx)
   intro t h1 h2
   rw [ht t h1, List.getElem_reverse]
   split
   ·
    rfl
   ·
    congr 1; omega
  rw [e]; exact Ev.now _
 | d + 1, i, j, x, h, hd, hx, ht => by
  by_cases hij : i < j
  ·
   refine Ev.step (fun _ => Qy.l0.eq_2 ..) (Qw (by omega) (Qw (by omega) (Qw (by omega) (Qw (by omega) (Qw (by omega) ?_)))))
   have hi : i < x.length := by omega
   have hj : j < x.length := by omega
   rw [Qd7 hi, Qd7 hj, Qck (by omega), Qc1 (x := (j : Int) - 1) (by omega) (by omega), show ((j : Int) - 1) = ((j - 1 : Nat) : Int) by omega, Int.toNat_natCast, Int.toNat_natCast]
   refine Qii l hl d (i + 1) (j - 1) _ (by omega) (by omega) (by simpa using hx) (fun t h1 => ?_)
   have h1' : t < x.length := by simpa using h1
   rw [List.getElem_set, List.getElem_set]
   by_cases c1 : j = t
   ·
    subst c1
    rw [if_pos rfl, if_pos (by omega)]
    refine (ht i hi).trans ?_
    rw [if_neg (by omega)]
    congr 1; omega
   ·
    rw [if_neg c1]
    by_cases c2 : i = t
    ·
     subst c2
     rw [if_pos rfl, if_pos (by omega)]
     refine (ht j hj).trans ?_
     rw [if_neg (by omega)]
     congr 1; omega
    ·
     rw [if_neg c2, ht t h1']
     by_cases c3 : t < i ∨ j < t
     ·
      rw [if_pos c3, if_pos (by omega)]
     ·
      rw [if_neg c3, if_neg (by omega)]
  ·
   refine Ev.step (fun _ => Qy.l0.eq_2 ..) (Qbw (by omega) ?_)
   have e : x = l.reverse := by
    apply List.ext_getElem (by simpa using hx)
    intro t h1 h2
    rw [ht t h1, List.getElem_reverse]
    split
    ·
     rfl
    ·
     congr 1; omega
   rw [e]; exact Ev.now _
theorem Qep (l : List Int) (hl : l.length ≤ 1000000) : Ev (fun k => Qy.f k l) l.reverse := by
 unfold Qy.f
 cases hn : l with
 | nil => exact Ev.step (fun _ => Qy.l0.eq_2 ..) (Qbw (by simp [wrap64]) (Ev.now _))
 | cons x t =>
  rw [← hn]
  have hp : 0 < l.length := by rw [hn]; simp
  rw [Qc1 (by omega) (by omega), show ((l.length : Int) - 1) = ((l.length - 1 : Nat) : Int) by omega]
  refine Qii l hl l.length 0 (l.length - 1) l (by omega) (by omega) rfl (fun t h => ?_)
  rw [if_neg (by omega)]
theorem Qfx (p : List Nat) : (toI p).reverse = toI p.reverse := by simp [toI]
theorem Qh7 {s m : Nat} (f : Nat → Nat) : ∀ (n a : Nat), Qc2 n s (fun o j => max o (f j)) a ≤ m ↔ (a ≤ m ∧ ∀ j, j < n → s.testBit j = true → f j ≤ m)
 | 0, a => by simp [Qc2]
 | n + 1, a => by
  rw [Qd4]
  have ih := Qh7 (s := s) (m := m) f n a
  split
  ·
   rename_i hs
   rw [Nat.max_le, ih]
   constructor
   ·
    rintro ⟨⟨h1, h2⟩, h3⟩
    refine ⟨h1, fun j hj hb => ?_⟩
    by_cases e : j = n
    ·
     subst e; exact h3
    ·
     exact h2 j (by omega) hb
   ·
    rintro ⟨h1, h2⟩
    exact ⟨⟨h1, fun j hj hb => h2 j (by omega) hb⟩, h2 n (by omega) hs⟩
  ·
   rename_i hs
   rw [ih]
   constructor
   ·
    rintro ⟨h1, h2⟩
    refine ⟨h1, fun j hj hb => ?_⟩
    by_cases e : j = n
    ·
     subst e; exact absurd hb hs
    ·
     exact h2 j (by omega) hb
   ·
    rintro ⟨h1, h2⟩
    exact ⟨h1, fun j hj hb => h2 j (by omega) hb⟩
theorem Qia {m : Nat} (c : Nat → Bool) (f : Nat → Nat) : ∀ (l : List Nat) (a : Nat), m ≤ l.foldl (fun o i => if c i = true then min o (f i) else o) a ↔ (m ≤ a ∧ ∀ i, i ∈ l → c i = true → m ≤ f i)
 | [], a => by simp
 | x :: l, a => by
  rw [List.foldl_cons, Qia c f l]
  by_cases h : c x = true
  ·
   rw [if_pos h, Nat.le_min]
   simp only [List.mem_cons]
   constructor
   ·
    rintro ⟨⟨h1, h2⟩, h3⟩
    refine ⟨h1, fun i hi hc => ?_⟩
    rcases hi with rfl | hi
    ·
     exact h2
    ·
     exact h3 i hi hc
   ·
    rintro ⟨h1, h2⟩
    exact ⟨⟨h1, h2 x (.inl rfl) h⟩, fun i hi hc => h2 i (.inr hi) hc⟩
  ·
   rw [if_neg h]
   simp only [List.mem_cons]
   constructor
   ·
    rintro ⟨h1, h2⟩
    refine ⟨h1, fun i hi hc => ?_⟩
    rcases hi with rfl | hi
    ·
     exact absurd hc h
    ·
     exact h2 i hi hc
   ·
    rintro ⟨h1, h2⟩
    exact ⟨h1, fun i hi hc => h2 i (.inr hi) hc⟩
theorem Qe6 {p y : List Nat} (g : Good p) {e m : Nat} : lowN p y e ≤ m ↔ ∀ j, (less p e).testBit j = true → y.getD j 0 ≤ m := by
 unfold lowN; rw [Qh7]
 constructor
 ·
  rintro ⟨_, h⟩ j hb; exact h j (by have := g.bit hb; omega) hb
 ·
  intro h; exact ⟨by omega, fun j _ hb => h j hb⟩
theorem Qed {p y : List Nat} (g : Good p) {b e m : Nat} : m ≤ Qdy p y b e ↔ (m ≤ b ∧ ∀ i, (less p i).testBit e = true → m ≤ y.getD i 0) := by
 unfold Qdy; rw [Qia (fun i => (less p i).testBit e)]
 constructor
 ·
  rintro ⟨h1, h⟩; exact ⟨h1, fun i hb => h i (by have := g.bit hb; simp; omega) hb⟩
 ·
  rintro ⟨h1, h⟩; exact ⟨h1, fun i _ hb => h i hb⟩
theorem Qhz {p y : List Nat} {b : Nat} (g : Good p) (a : Arr p y b) (e : Nat) : lowN p y e ≤ y.getD e 0 := (Qe6 g).mpr fun j hb => a.up e j hb
theorem Qi0 {p y : List Nat} {b : Nat} (g : Good p) (a : Arr p y b) (e : Nat) : y.getD e 0 ≤ Qdy p y b e := (Qed g).mpr ⟨a.hi e, fun i hb => a.up i e hb⟩
theorem Qe0 {p y : List Nat} (g : Good p) (b e : Nat) : Qdy p y b e ≤ b := ((Qed g).mp (Nat.le_refl _)).1
def tgN (p : List Nat) (b : Nat) (y : List Nat) (e : Nat) : List Nat := y.set e (lowN p y e + Qdy p y b e - y.getD e 0)
theorem getD_set (y : List Nat) (e v i : Nat) : (y.set e v).getD i 0 = if i = e ∧ e < y.length then v else y.getD i 0 := by
 simp only [List.getD_eq_getElem?_getD, List.getElem?_set]
 by_cases h : e = i
 ·
  subst h
  by_cases h2 : e < y.length
  ·
   simp [h2]
  ·
   simp [h2]
 ·
  simp [h, Ne.symm h]
theorem Qe7 (p : List Nat) (b : Nat) (y : List Nat) (e : Nat) : (tgN p b y e).length = y.length := by simp [tgN]
theorem Qf2 (p : List Nat) (b : Nat) (y : List Nat) (e i : Nat) : (tgN p b y e).getD i 0 = if i = e ∧ e < y.length then lowN p y e + Qdy p y b e - y.getD e 0 else y.getD i 0 := getD_set ..
theorem Arr.tg {p y : List Nat} {b : Nat} (g : Good p) (a : Arr p y b) (e : Nat) : Arr p (tgN p b y e) b := by
 have h1 := Qhz g a e
 have h2 := Qi0 g a e
 have h3 := Qe0 (y := y) g b e
 refine ⟨by rw [Qe7]; exact a.len, fun i => ?_, fun i j hb => ?_⟩
 ·
  rw [Qf2]; split
  ·
   omega
  ·
   exact a.hi i
 ·
  have hj := g.bit hb
  have hu := a.up i j hb
  rw [Qf2, Qf2]
  by_cases c1 : j = e ∧ e < y.length
  ·
   rw [if_pos c1, if_neg (by omega)]
   have := ((Qed (y := y) (b := b) g (e := e)).mp (Nat.le_refl _)).2 i (by rw [← c1.1]; exact hb)
   omega
  ·
   rw [if_neg c1]
   by_cases c2 : i = e ∧ e < y.length
   ·
    rw [if_pos c2]
    have := (Qe6 (y := y) g (e := e)).mp (Nat.le_refl _) j (by rw [← c2.1]; exact hb)
    omega
   ·
    rw [if_neg c2]; exact hu
theorem tg_val {p y : List Nat} {b : Nat} (g : Good p) (a : Arr p y b) (hb : b ≤ 20) (e : Nat) : wrap64 (wrap64 (((lowN p y e : Nat) : Int) + ((Qdy p y b e : Nat) : Int)) - rd (toI y) (e : Int)) = ((lowN p y e + Qdy p y b e - y.getD e 0 : Nat) : Int) := by
 have h1 := Qhz g a e
 have h2 := Qi0 g a e
 have h3 := Qe0 (y := y) g b e
 have h4 := a.hi e
 rw [Qd1, Qc1 (x := ((lowN p y e : Nat) : Int) + ((Qdy p y b e : Nat) : Int)) (by omega) (by omega), Qc1 (by omega) (by omega)]; omega
theorem Arr.small {p y : List Nat} {b : Nat} (g : Good p) (a : Arr p y b) : y.length ≤ 10 := by rw [a.len]; exact g.le
theorem Qku {p y : List Nat} {b : Nat} (g : Good p) (a : Arr p y b) (hb : b ≤ 20) {e : Nat} (he : e < p.length) : Ev (fun k => Qc9.f k (toI p) (toI y) (b : Int) (e : Int)) (toI (tgN p b y e)) := by
 have hl := a.small g
 refine Ev.bind (Qlr g a.len b e he) (Qbo (Qeq _ (by rw [toI_len]; omega)) (Qw (by omega) (Qw (by rw [toI_len, a.len]; omega) (Qw (by rw [toI_len, a.len]; omega) ?_))))
 simp only
 rw [tg_val g a hb, Int.toNat_natCast, Qiq]; exact Ev.now _
theorem Qkz {p : List Nat} {b : Nat} (g : Good p) (hb : b ≤ 20) (w : List Nat) (hw : ∀ e ∈ w, e < p.length) (hl : w.length ≤ 1000000) : ∀ (d i : Nat) (y : List Nat), i + d = w.length → Arr p y b →
  Ev (fun k => Qbh.l0 k (toI y) (b : Int) (toI w) ((toI w).length : Int) (i : Int) (toI p)) (toI ((w.drop i).foldl (tgN p b) y))
 | 0, i, y, h, a => by
  refine Ev.step (fun _ => Qbh.l0.eq_2 ..) (Qbw (by rw [toI_len]; omega) ?_)
  rw [List.drop_of_length_le (by omega)]; exact Ev.now _
 | d + 1, i, y, h, a => by
  have hi : i < w.length := by omega
  have he := hw _ (List.getElem_mem hi)
  have e1 : rd (toI w) (i : Int) = ((w[i] : Nat) : Int) := by rw [Qd1]; simp [List.getD_eq_getElem?_getD, hi]
  refine Ev.step (fun _ => Qbh.l0.eq_2 ..) ?_
  rw [e1]
  refine Qw (by rw [toI_len]; omega) (Qw (by omega) (Qw (by rw [toI_len]; omega) (Ev.bind (reach_ev g a.len b _ he) (Qw (by omega) (Qw (by rw [toI_len, a.len]; omega) ?_)))))
  simp only
  rw [tg_val g a hb, Int.toNat_natCast, Qiq, Qck (by omega), List.drop_eq_getElem_cons hi, List.foldl_cons]
  exact Qkz g hb w hw hl d (i + 1) _ (by omega) (a.tg g _)
theorem Qk3 {p y : List Nat} {b : Nat} (g : Good p) (a : Arr p y b) (hb : b ≤ 20) (w : List Nat) (hw : ∀ e ∈ w, e < p.length) (hl : w.length ≤ 1000000) : Ev (fun k => Qbh.f k (toI p) (toI y) (b : Int) (toI w)) (toI (w.foldl (tgN p b) y)) := by
 have := Qkz g hb w hw hl w.length 0 y (by omega) a
 rw [List.drop_zero] at this; exact this
theorem Arr.fold {p : List Nat} {b : Nat} (g : Good p) : ∀ (w y : List Nat), Arr p y b → Arr p (w.foldl (tgN p b) y) b
 | [], _, a => a
 | e :: w, y, a => Arr.fold g w _ (a.tg g e)
theorem Qht (p : List Nat) (b : Nat) : ∀ (w y : List Nat), (w.foldl (tgN p b) y).length = y.length
 | [], _ => rfl
 | e :: w, y => by rw [List.foldl_cons, Qht p b w, Qe7]
def rowN (p : List Nat) (b : Nat) (y : List Nat) : List Nat := (List.range p.length).reverse.foldl (tgN p b) y
def Qey (p : List Nat) (b : Nat) (y : List Nat) : List Nat := (List.range p.length).foldl (tgN p b) y
theorem Arr.row {p y : List Nat} {b : Nat} (g : Good p) (a : Arr p y b) : Arr p (rowN p b y) b := Arr.fold g _ _ a
theorem Arr.back {p y : List Nat} {b : Nat} (g : Good p) (a : Arr p y b) : Arr p (Qey p b y) b := Arr.fold g _ _ a
def iter {α : Type} (f : α → α) : Nat → α → α
 | 0, x => x
 | n + 1, x => iter f n (f x)
theorem Qho {p : List Nat} {b : Nat} {f : List Nat → List Nat} (hf : ∀ y, (f y).length = y.length) : ∀ (n : Nat) (y : List Nat), (iter f n y).length = y.length
 | 0, _ => rfl
 | n + 1, y => by rw [iter, Qho (p := p) (b := b) hf n, hf]
theorem Qkf {p : List Nat} {b : Nat} (g : Good p) (hb : b ≤ 20) : ∀ (i : Nat) (y : List Nat), i ≤ p.length → Arr p y b → Ev (fun k => Qb1.l0 k (b : Int) (toI y) ((i : Int) - 1) (toI p)) (toI ((List.range i).reverse.foldl (tgN p b) y))
 | 0, y, h, a => by
  refine Ev.step (fun _ => Qb1.l0.eq_2 ..) (Qbw (by omega) ?_)
  exact Ev.now _
 | i + 1, y, h, a => by
  refine Ev.step (fun _ => Qb1.l0.eq_2 ..) (Qw (by omega) ?_)
  have gl := g.le
  rw [show (((i + 1 : Nat) : Int) - 1) = (i : Int) by omega, Qc1 (by omega) (by omega), List.range_succ, List.reverse_append, List.reverse_singleton, List.singleton_append, List.foldl_cons]
  exact Ev.bind (Qku g a hb (by omega)) (Qkf g hb i _ (by omega) (a.tg g i))
theorem Qhg {p y : List Nat} {b : Nat} (g : Good p) (a : Arr p y b) (hb : b ≤ 20) : Ev (fun k => Qb1.f k (toI p) (toI y) (b : Int)) (toI (rowN p b y)) := by
 have gl := g.le
 have hl := a.small g
 refine Qbo (Qeq _ (by rw [toI_len]; omega)) ?_
 rw [toI_len, Qc1 (by omega) (by omega)]
 exact Qkf g hb p.length y (Nat.le_refl _) a
theorem Qjj {p : List Nat} {b : Nat} (g : Good p) (hb : b ≤ 20) : ∀ (d i : Nat) (y : List Nat), i + d = p.length → Arr p y b → Ev (fun k => Qcc.l0 k (b : Int) (toI y) (p.length : Int) (i : Int) (toI p)) (toI ((List.range' i d).foldl (tgN p b) y))
 | 0, i, y, h, a => Ev.step (fun _ => Qcc.l0.eq_2 ..) (Qbw (by omega) (Ev.now _))
 | d + 1, i, y, h, a => by
  have gl := g.le
  refine Ev.step (fun _ => Qcc.l0.eq_2 ..) (Qw (by omega) (Ev.bind (Qku g a hb (by omega)) ?_))
  rw [Qck (by omega), List.range'_succ, List.foldl_cons]
  exact Qjj g hb d (i + 1) _ (by omega) (a.tg g i)
theorem Qmh {p y : List Nat} {b : Nat} (g : Good p) (a : Arr p y b) (hb : b ≤ 20) : Ev (fun k => Qcc.f k (toI p) (toI y) (b : Int)) (toI (Qey p b y)) := by
 have hl := a.small g
 refine Qbo (Qeq _ (by rw [toI_len]; omega)) ?_
 rw [toI_len]
 have := Qjj g hb p.length 0 y (by omega) a
 rw [← List.range_eq_range'] at this; exact this
theorem Qgi {p : List Nat} {b : Nat} (g : Good p) (hb : b ≤ 20) : ∀ (n : Nat) (y : List Nat), n ≤ 1000 → Arr p y b → Ev (fun k => Q3.l1 k (b : Int) (-(n : Int)) (toI y) (toI p)) (toI (iter (Qey p b) n y), true)
 | 0, y, h, a => Ev.step (fun _ => Q3.l1.eq_2 ..) (Qbw (by omega) (Ev.now _))
 | n + 1, y, h, a => by
  refine Ev.step (fun _ => Q3.l1.eq_2 ..) (Qw (by omega) (Ev.bind (Qmh g a hb) ?_))
  rw [Qc1 (by omega) (by omega), show (-((n + 1 : Nat) : Int) + 1) = -(n : Int) by omega]
  exact Qgi g hb n _ (by omega) (a.back g)
theorem Qh5 {p : List Nat} {b : Nat} (g : Good p) (hb : b ≤ 20) : ∀ (n : Nat) (y : List Nat), n ≤ 1000 → Arr p y b → Ev (fun k => Q3.l0 k (b : Int) (n : Int) (toI y) (toI p)) (toI (iter (rowN p b) n y), true)
 | 0, y, h, a => Ev.step (fun _ => Q3.l0.eq_2 ..) (Qbw (by omega) (Qgi g hb 0 y (by omega) a))
 | n + 1, y, h, a => by
  refine Ev.step (fun _ => Q3.l0.eq_2 ..) (Qw (by omega) (Ev.bind (Qhg g a hb) ?_))
  rw [Qc1 (by omega) (by omega), show (((n + 1 : Nat) : Int) - 1) = (n : Int) by omega]
  exact Qh5 g hb n _ (by omega) (a.row g)
theorem Qkq {p : List Nat} {b : Nat} (g : Good p) (hb : b ≤ 20) (n : Nat) (y : List Nat) (h : n ≤ 1000) (a : Arr p y b) : Ev (fun k => Q3.l0 k (b : Int) (-(n : Int)) (toI y) (toI p)) (toI (iter (Qey p b) n y), true) :=
 Ev.step (fun _ => Q3.l0.eq_2 ..) (Qbw (by omega) (Qgi g hb n y h a))
theorem Qgb {p : List Nat} {b : Nat} (g : Good p) (hb : b ≤ 20) (w : List Nat) (hw : ∀ e ∈ w, e < p.length) (hl : w.length ≤ 1000) (m : Nat) (hm : m ≤ 1000) : ∀ (d i : Nat) (y : List Nat), i + d = m → Arr p y b →
  Ev (fun k => Qv.l0 k (b : Int) (toI y) (toI w) (m : Int) (i : Int) (toI p)) (toI (iter (fun z => w.foldl (tgN p b) z) d y), true)
 | 0, i, y, h, a => Ev.step (fun _ => Qv.l0.eq_2 ..) (Qbw (by omega) (Ev.now _))
 | d + 1, i, y, h, a => by
  refine Ev.step (fun _ => Qv.l0.eq_2 ..) (Qw (by omega) (Ev.bind (Qk3 g a hb w hw (by omega)) ?_))
  rw [Qck (by omega)]
  exact Qgb g hb w hw hl m hm d (i + 1) _ (by omega) (Arr.fold g w y a)
theorem Qga (p : List Nat) (b : Nat) (y : List Nat) : (rowN p b y).length = y.length := Qht p b _ y
theorem Qjc (p : List Nat) (b : Nat) (y : List Nat) : (Qey p b y).length = y.length := Qht p b _ y
theorem RAT_ev (l x : List Int) (b m : Int) (hl : l.length ≤ 1048576) (hx : x.length ≤ 1048576) : ∃ r : List Int × Bool, r.1.length ≤ 1000 ∧ Ev (fun k => Q3.f k l x b m) r ∧ Ev (fun k => Qv.f k l x b m) r ∧
  (Qdv l x b = false → r = ([], false)) ∧ (∀ p y c, l = toI p → x = toI y → b = ((c : Nat) : Int) → Good p → c ≤ 20 → Arr p y c → (m = 1 → r = (toI (rowN p c y), true)) ∧ (m = -1 → r = (toI (Qey p c y), true))) := by
 by_cases h : Qdv l x b = true
 ·
  obtain ⟨p, y, c, rfl, rfl, rfl, g, hc, a⟩ := Qe5 h
  have hs := a.small g
  have gl := g.le
  by_cases h2 : inB m (-1000) 1000 = true
  ·
   have b2 := Qdj.mp h2
   have hcl := Qd0 (toI y) (by rw [toI_len]; omega)
   have hown := Qeq (toI y) (by rw [toI_len]; omega)
   by_cases hpos : 0 < m
   ·
    obtain ⟨n, rfl⟩ : ∃ n : Nat, m = (n : Int) := ⟨m.toNat, by omega⟩
    refine ⟨(toI (iter (rowN p c) n y), true), by simp [Qho (p := p) (b := c) (Qga p c)]; omega, ?_, ?_, by rw [h]; simp, ?_⟩
    ·
     refine Ev.bind (Qee _ _ _) (Qw h (Qbo (Qer _ _ _) ?_))
     rw [h2]
     exact Ev.step (fun _ => Q3.j0.eq_2 ..) (Qbw (by simp) (Qbo hown (Qh5 g hc n y (by omega) a)))
    ·
     refine Ev.bind (Qdh _ _ _) (Qw h (Qbo (Qd6 _ _ _) ?_))
     rw [h2]
     refine Ev.step (fun _ => Qv.j0.eq_2 ..) (Qbw (by simp) (Qbo hcl (Qbo (n_eq _) ?_)))
     rw [toI_len]
     refine Ev.bind (Qet p.length (by omega)) (Qw (by omega) (Ev.bind (Qep _ (by simp; omega)) (Ev.step (fun _ => Qv.j1.eq_2 ..) ?_)))
     have e : mx (n : Int) (wrap64 (-(n : Int))) = (n : Int) := by rw [Qc1 (by omega) (by omega)]; unfold mx; omega
     rw [e, Qfx]
     exact Qgb g hc (List.range p.length).reverse (by simp) (by simp; omega) n (by omega) n 0 y (by omega) a
    ·
     intro p' y' c' e1 e2 e3 _ _ _
     obtain rfl := Qfa e1
     obtain rfl := Qfa e2
     obtain rfl : c = c' := by omega
     exact ⟨fun e => by
      obtain rfl : n = 1 := by omega
      rfl, fun e => by omega⟩
   ·
    obtain ⟨n, rfl⟩ : ∃ n : Nat, m = -(n : Int) := ⟨(-m).toNat, by omega⟩
    refine ⟨(toI (iter (Qey p c) n y), true), by simp [Qho (p := p) (b := c) (Qjc p c)]; omega, ?_, ?_, by rw [h]; simp, ?_⟩
    ·
     refine Ev.bind (Qee _ _ _) (Qw h (Qbo (Qer _ _ _) ?_))
     rw [h2]
     exact Ev.step (fun _ => Q3.j0.eq_2 ..) (Qbw (by simp) (Qbo hown (Qkq g hc n y (by omega) a)))
    ·
     refine Ev.bind (Qdh _ _ _) (Qw h (Qbo (Qd6 _ _ _) ?_))
     rw [h2]
     refine Ev.step (fun _ => Qv.j0.eq_2 ..) (Qbw (by simp) (Qbo hcl (Qbo (n_eq _) ?_)))
     rw [toI_len]
     refine Ev.bind (Qet p.length (by omega)) (Qbw (by omega) (Ev.step (fun _ => Qv.j1.eq_2 ..) ?_))
     have e : mx (-(n : Int)) (wrap64 (- -(n : Int))) = (n : Int) := by rw [Qc1 (by omega) (by omega)]; unfold mx; split <;> omega
     rw [e]
     exact Qgb g hc (List.range p.length) (by simp) (by simp; omega) n (by omega) n 0 y (by omega) a
    ·
     intro p' y' c' e1 e2 e3 _ _ _
     obtain rfl := Qfa e1
     obtain rfl := Qfa e2
     obtain rfl : c = c' := by omega
     exact ⟨fun e => by omega, fun e => by
      obtain rfl : n = 1 := by omega
      rfl⟩
  ·
   refine ⟨([], false), by simp, ?_, ?_, by simp, fun _ _ _ _ _ _ _ _ _ => ⟨fun e => by subst e; exact absurd (by decide) h2, fun e => by subst e; exact absurd (by decide) h2⟩⟩
   ·
    refine Ev.bind (Qee _ _ _) (Qw h (Qbo (Qer _ _ _) ?_))
    rw [Bool.eq_false_iff.mpr h2]
    exact Ev.step (fun _ => Q3.j0.eq_2 ..) (Qw rfl (Ev.now _))
   ·
    refine Ev.bind (Qdh _ _ _) (Qw h (Qbo (Qd6 _ _ _) ?_))
    rw [Bool.eq_false_iff.mpr h2]
    exact Ev.step (fun _ => Qv.j0.eq_2 ..) (Qw rfl (Ev.now _))
 ·
  refine ⟨([], false), by simp, Ev.bind (Qee _ _ _) (Qbw h ?_), Ev.bind (Qdh _ _ _) (Qbw h ?_), by simp, fun p y c e1 e2 e3 g hc a => ?_⟩
  ·
   exact Ev.step (fun _ => Q3.j0.eq_2 ..) (Qw rfl (Ev.now _))
  ·
   exact Ev.step (fun _ => Qv.j0.eq_2 ..) (Qw rfl (Ev.now _))
  ·
   exact absurd (by rw [e1, e2, e3]; exact Qgt g hc a) h
end Go.Proofs.Ytkgngggppcmpfaa.M
end
section
namespace Go.Proofs.Ytkgngggppcmpfaa.M
open Go.RowKit Go.Proofs.YtkgngggppcmpfaaW.PrintWords Go.Proofs.YtkgngggppcmpfaaW.PrintLast Go.Proofs.YtkgngggppcmpfaaW.PrintMore Go.Proofs.Ytkgngggppcmpfaa.L
end Go.Proofs.Ytkgngggppcmpfaa.M
end
section
namespace Go.Proofs.Ytkgngggppcmpfaa.M
open Go.RowKit Go.Proofs.YtkgngggppcmpfaaW.PrintWords Go.Proofs.YtkgngggppcmpfaaW.PrintLast Go.Proofs.YtkgngggppcmpfaaW.PrintMore Go.Proofs.Ytkgngggppcmpfaa.L
set_option linter.unusedVariables false
def Qil (r : List (List Int)) : Prop := r.length ≤ 100000 ∧ ∀ x ∈ r, x.length ≤ 100000
theorem Qlc {r : List (List Int)} {i : Nat} (h : i < r.length) : Qb3 r (i : Int) = r[i] := by unfold Qb3; simp [List.getD_eq_getElem?_getD, h]
theorem Qj5 {x y : Int} {a b : List Int} (e : x = y) : decide (x :: a = y :: b) = decide (a = b) :=
 decide_eq_decide.mpr (by rw [List.cons.injEq]; exact ⟨fun z => z.2, fun z => ⟨e, z⟩⟩)
theorem Qjp (a b : List Int) (hl : a.length ≤ 1000000) (hab : a.length = b.length) : ∀ (d i : Nat), i + d = a.length → Ev (fun k => Qbq.l0 k a b (a.length : Int) (i : Int)) (decide (a.drop i = b.drop i))
 | 0, i, h => by
  refine Ev.step (fun _ => Qbq.l0.eq_2 ..) (Qbw (by omega) ?_)
  rw [List.drop_of_length_le (by omega), List.drop_of_length_le (by omega)]
  exact Ev.now _
 | d + 1, i, h => by
  refine Ev.step (fun _ => Qbq.l0.eq_2 ..) (Qw (by omega) (Qw (by omega) (Qw (by omega) (Qw (by omega) ?_))))
  rw [Qck (by omega), Qd7 (by omega : i < a.length), Qd7 (by omega : i < b.length)]
  rw [List.drop_eq_getElem_cons (by omega : i < a.length), List.drop_eq_getElem_cons (by omega : i < b.length)]
  refine Qc5 (fun e => ?_) (fun e => ?_)
  ·
   rw [Qj5 e]
   exact Qjp a b hl hab d (i + 1) (by omega)
  ·
   rw [decide_eq_false (show ¬ (a[i] :: a.drop (i + 1) = b[i] :: b.drop (i + 1)) by rw [List.cons.injEq]; exact fun z => e z.1)]
   exact Ev.now _
theorem Qkc (a b : List Int) (hl : a.length ≤ 1000000) : Ev (fun k => Qbq.f k a b) (decide (a = b)) := by
 by_cases h : a.length = b.length
 ·
  exact Qw (by omega) (Qjp a b hl h a.length 0 (Nat.zero_add _))
 ·
  rw [decide_eq_false (fun e => h (by rw [e]))]
  exact Qbw (by omega) (Ev.now _)
theorem Qje (a b : List Int) (hl : a.length ≤ 1000000) (hab : a.length = b.length) : ∀ (d i : Nat), i + d = a.length → Ev (fun k => Qci.l0 k a b (a.length : Int) (i : Int)) (decide (a.drop i = b.drop i))
 | 0, i, h => by
  refine Ev.step (fun _ => Qci.l0.eq_2 ..) (Qbw (by omega) ?_)
  rw [List.drop_of_length_le (by omega), List.drop_of_length_le (by omega)]
  exact Ev.now _
 | d + 1, i, h => by
  refine Ev.step (fun _ => Qci.l0.eq_2 ..) (Qw (by omega) (Qw (by omega) (Qw (by omega) (Qw (by omega) ?_))))
  rw [Qck (by omega), Qd7 (by omega : i < a.length), Qd7 (by omega : i < b.length)]
  rw [List.drop_eq_getElem_cons (by omega : i < a.length), List.drop_eq_getElem_cons (by omega : i < b.length)]
  refine Qc5 (fun e => ?_) (fun e => ?_)
  ·
   rw [Qj5 e]
   exact Qje a b hl hab d (i + 1) (by omega)
  ·
   rw [decide_eq_false (show ¬ (a[i] :: a.drop (i + 1) = b[i] :: b.drop (i + 1)) by rw [List.cons.injEq]; exact fun z => e z.1)]
   exact Ev.now _
theorem Qjg (a b : List Int) (hl : a.length ≤ 1000000) : Ev (fun k => Qci.f k a b) (decide (a = b)) := by
 by_cases h : a.length = b.length
 ·
  exact Qw (by omega) (Qje a b hl h a.length 0 (Nat.zero_add _))
 ·
  rw [decide_eq_false (fun e => h (by rw [e]))]
  exact Qbw (by omega) (Ev.now _)
theorem Qg1 (x y : List Nat) : decide (toI x = toI y) = decide (x = y) := decide_eq_decide.mpr ⟨Qfa, fun e => by rw [e]⟩
def orbA (p : List Nat) (b : Nat) (x : List Nat) : Nat → List (List Int) → List Nat → List (List Int) × Bool
 | 0, out, y => if y = x then (out, true) else ([], false)
 | d + 1, out, y => if y = x then (out, true) else orbA p b x d (out ++ [toI y]) (rowN p b y)
theorem Qk0 {p : List Nat} {b : Nat} {x : List Nat} (hp : p.length ≤ 1000) : ∀ (d : Nat) (out : List (List Int)) (y : List Nat), out.length + d = 1000 → y.length ≤ 1000 → (∀ z ∈ out, z.length ≤ 1000) → Qil (orbA p b x d out y).1
 | 0, out, y, h, hy, ho => by
  rw [orbA]; split
  ·
   exact ⟨show out.length ≤ 100000 by omega, fun z hz => Nat.le_trans (ho z hz) (by omega)⟩
  ·
   exact ⟨by simp, by simp⟩
 | d + 1, out, y, h, hy, ho => by
  rw [orbA]; split
  ·
   exact ⟨show out.length ≤ 100000 by omega, fun z hz => Nat.le_trans (ho z hz) (by omega)⟩
  ·
   refine Qk0 hp d _ _ (by simp; omega) (by rw [Qga]; omega) (fun z hz => ?_)
   rw [List.mem_append, List.mem_singleton] at hz
   rcases hz with hz | rfl
   ·
    exact ho z hz
   ·
    rw [toI_len]; omega
theorem Qih {p : List Nat} {b : Nat} (g : Good p) (hb : b ≤ 20) (x : List Nat) : ∀ (d : Nat) (out : List (List Int)) (y : List Nat), out.length + d = 1000 → Arr p y b →
  Ev (fun k => Qbe.l0 k (toI x) (b : Int) out (toI y) (toI p)) (orbA p b x d out y)
 | 0, out, y, h, a => by
  have hs := a.small g
  refine Ev.step (fun _ => Qbe.l0.eq_2 ..) (Ev.bind (Qjg _ _ (by rw [toI_len]; omega)) ?_)
  rw [Qg1, orbA]
  refine Qc5 (fun e => ?_) (fun e => ?_)
  ·
   rw [if_pos (of_decide_eq_true e)]; exact Ev.now _
  ·
   rw [if_neg (fun z => e (decide_eq_true z))]
   exact Qw (by omega) (Ev.now _)
 | d + 1, out, y, h, a => by
  have hs := a.small g
  refine Ev.step (fun _ => Qbe.l0.eq_2 ..) (Ev.bind (Qjg _ _ (by rw [toI_len]; omega)) ?_)
  rw [Qg1, orbA]
  refine Qc5 (fun e => ?_) (fun e => ?_)
  ·
   rw [if_pos (of_decide_eq_true e)]; exact Ev.now _
  ·
   rw [if_neg (fun z => e (decide_eq_true z))]
   exact Qbw (by omega) (Qw (by omega) (Ev.bind (Qhg g a hb) (Qih g hb x d _ _ (by simp; omega) (a.row g))))
theorem Qfc {p : List Nat} {b : Nat} (g : Good p) (hb : b ≤ 20) {y : List Nat} (a : Arr p y b) : Ev (fun k => Qbh.f k (toI p) (toI y) (b : Int) (toI (List.range p.length).reverse)) (toI (rowN p b y)) := by
 have gl := g.le
 exact Qk3 g a hb _ (by simp) (by simp; omega)
theorem Qf7 {p : List Nat} {b : Nat} (g : Good p) (hb : b ≤ 20) (x : List Nat) : ∀ (d : Nat) (out : List (List Int)) (y : List Nat), out.length + d = 1000 → out ≠ [] → Arr p y b →
  Ev (fun k => Q7.l0 k (toI x) (b : Int) out (toI (List.range p.length).reverse) (toI y) (toI p)) (orbA p b x d out y)
 | 0, out, y, h, hn, a => by
  have hs := a.small g
  have : out.length ≠ 0 := fun e => hn (List.length_eq_zero_iff.mp e)
  refine Ev.step (fun _ => Q7.l0.eq_2 ..) (Qbw (by omega) (Ev.bind (Qkc _ _ (by rw [toI_len]; omega)) (Ev.step (fun _ => Q7.j1.eq_2 ..) ?_)))
  rw [Qg1, orbA]
  by_cases e : y = x
  ·
   rw [decide_eq_true e, if_pos e]; exact Qbw (by simp) (Ev.now _)
  ·
   rw [decide_eq_false e, if_neg e]
   exact Qw rfl (Qw (by omega) (Ev.now _))
 | d + 1, out, y, h, hn, a => by
  have hs := a.small g
  have : out.length ≠ 0 := fun e => hn (List.length_eq_zero_iff.mp e)
  refine Ev.step (fun _ => Q7.l0.eq_2 ..) (Qbw (by omega) (Ev.bind (Qkc _ _ (by rw [toI_len]; omega)) (Ev.step (fun _ => Q7.j1.eq_2 ..) ?_)))
  rw [Qg1, orbA]
  by_cases e : y = x
  ·
   rw [decide_eq_true e, if_pos e]; exact Qbw (by simp) (Ev.now _)
  ·
   rw [decide_eq_false e, if_neg e]
   exact Qw rfl (Qbw (by omega) (Qbo (Qd0 _ (by rw [toI_len]; omega)) (Qw (by omega) (Ev.bind (Qfc g hb a) (Qf7 g hb x d _ _ (by simp; omega) (by simp) (a.row g))))))
theorem Qfh (l x : List Int) (b : Int) (hl : l.length ≤ 1048576) (hx : x.length ≤ 1048576) : ∃ r : List (List Int) × Bool, Qil r.1 ∧ Ev (fun k => Qbe.f k l x b) r ∧ Ev (fun k => Q7.f k l x b) r := by
 by_cases h : Qdv l x b = true
 ·
  obtain ⟨p, y, c, rfl, rfl, rfl, g, hc, a⟩ := Qe5 h
  have hs := a.small g
  have gl := g.le
  refine ⟨orbA p c y 999 [toI y] (rowN p c y), Qk0 (by omega) _ _ _ (by simp) (by rw [Qga]; omega) (by simp; omega), ?_, ?_⟩
  ·
   exact Ev.bind (Qee _ _ _) (Qw h (Qbo (Qeq _ (by rw [toI_len]; omega)) (Ev.bind (Qhg g a hc) (Qih g hc y 999 _ _ (by simp) (a.row g)))))
  ·
   refine Ev.bind (Qdh _ _ _) (Qw h (Qbo (n_eq _) ?_))
   rw [toI_len]
   have hb : Ev (fun k => Qb6.f k (toI (List.range p.length))) (toI (List.range p.length).reverse) := by
    refine Qbo (Qd0 _ (by simp; omega)) (Ev.bind (Qep _ (by simp; omega)) ?_)
    rw [Qfx]; exact Ev.now _
   refine Ev.bind (Qet p.length (by omega)) (Ev.bind hb (Qbo (Qd0 _ (by rw [toI_len]; omega)) ?_))
   refine Ev.step (fun _ => Q7.l0.eq_2 ..) (Qw rfl (Ev.step (fun _ => Q7.j1.eq_2 ..) (Qw rfl (Qbw (by simp) (Qbo (Qd0 _ (by rw [toI_len]; omega)) (Qw (by simp) (Ev.bind (Qfc g hc a) ?_)))))))
   exact Qf7 g hc y 999 [toI y] _ (by simp) (by simp) (a.row g)
 ·
  exact ⟨([], false), ⟨by simp, by simp⟩, Ev.bind (Qee _ _ _) (Qbw h (Ev.now _)), Ev.bind (Qdh _ _ _) (Qbw h (Ev.now _))⟩
end Go.Proofs.Ytkgngggppcmpfaa.M
end
section
namespace Go.Proofs.Ytkgngggppcmpfaa.L
open Go.RowKit Go.Proofs.YtkgngggppcmpfaaW.PrintWords Go.Proofs.YtkgngggppcmpfaaW.PrintLast Go.Proofs.YtkgngggppcmpfaaW.PrintMore
attribute [local go_sem] Qbj Qbi Qbu Qbt Qbd Qbc Qbk Qbl
set_option linter.unusedVariables false
set_option linter.unusedSimpArgs false
end Go.Proofs.Ytkgngggppcmpfaa.L
end
