/- Laws about the given program: the law FnArrayOrbits answers true for every input that its row lets in; no condition is added to the given statement. Contracts of the Go functions that it reaches, and the plain proof over lists. -/
import Derived.Test.YtkgngggppcmpfaaWFnArrayOrbits0
import Derived.Test.YtkgngggppcmpfaaKFnArrayOrbits0
import Derived.Test.YtkgngggppcmpfaaKFnArrayOrbits1
import Derived.Test.YtkgngggppcmpfaaKFnArrayOrbits2
import Derived.Test.YtkgngggppcmpfaaKFnArrayOrbits3
import Derived.Test.YtkgngggppcmpfaaKFnArrayOrbits4
import Derived.Test.YtkgngggppcmpfaaKFnArrayOrbits5
import Derived.Test.YtkgngggppcmpfaaKFnArrayOrbits6
import Derived.Test.YtkgngggppcmpfaaKFnArrayOrbits7
import Derived.Test.YtkgngggppcmpfaaKFnArrayOrbits8
section
namespace Go.Proofs.Ytkgngggppcmpfaa.L
open Go.RowKit Go.Proofs.YtkgngggppcmpfaaW.PrintWords Go.Proofs.YtkgngggppcmpfaaW.PrintLast Go.Proofs.YtkgngggppcmpfaaW.PrintMore
attribute [local go_sem] Qbj Qbi Qbu Qbt Qbd Qbc Qbk Qbl
set_option linter.unusedVariables false
set_option linter.unusedSimpArgs false
mutual
def laws_FnArrayOrbits.j0 : Nat → List Int → List Int → Int → List (List Int) → Bool → Bool → List Int → Option (Bool)
 |0,_,_,_,_,_,_,_=>none
 |k+1,x1,x6,x7,x8,x9,x66,x576000=>if x66=true then (none) else (if x9=true then (laws_FnArrayOrbits.l0 k x1 x6 x7 x8 x8 (x8.length:Int) 0 x576000) else (laws_FnArrayOrbits.j2 k x1))
def laws_FnArrayOrbits.j2 : Nat → List Int → Option (Bool)
 |0,_=>none
 |k+1,x1=>(Qcd.f k x1).bind fun bt593=>((Qby.f k bt593.1 bt593.2.1 bt593.2.2).bind fun bt601=>((Qbp.f k bt593.1 bt593.2.1 bt593.2.2).bind fun bt605=>(if (bt601.2 !=bt605.2)=true then (laws_FnArrayOrbits.j3 k bt593.2.1 bt593.2.2 bt601.1 bt601.2 true bt593.1) else ((Q8.f k bt601.1 bt605.1).bind fun t609=>(laws_FnArrayOrbits.j3 k bt593.2.1 bt593.2.2 bt601.1 bt601.2 (!t609) bt593.1)))))
def laws_FnArrayOrbits.j3 : Nat → List Int → Int → List Int → Bool → Bool → List Int → Option (Bool)
 |0,_,_,_,_,_,_=>none
 |k+1,x17,x18,x19,x20,x135,x601000=>if x135=true then (none) else (if x20=true then ((Qcw.f k x601000).bind fun bt610=>((Qct.f k bt610.1 x19 x18).bind fun bt615=>((Qby.f k bt610.1 x19 x18).bind fun bt617=>((Qca.f k x601000 x17 x18).bind fun bt621=>((Qby.f k x601000 bt621.1 x18).bind fun bt625=>((Qcf.f k bt610.1 x19 x18).bind fun bt629=>(if bt610.2=true then (if bt615.2=true then (if bt615.1=true then (if bt617.2=true then ((Q8.f k bt617.1 x17).bind fun t633=>(if t633=true then (if bt621.2=true then (if bt625.2=true then (if bt629.2=true then ((Q8.f k bt629.1 bt625.1).bind fun t634=>(some t634)) else (none)) else (none)) else (none)) else (none))) else (none)) else (none)) else (none)) else (none)))))))) else (some true))
def laws_FnArrayOrbits.l0 : Nat → List Int → List Int → Int → List (List Int) → List (List Int) → Int → Int → List Int → Option (Bool)
 |0,_,_,_,_,_,_,_,_=>none
 |k+1,x1,x6,x7,x8,x68,x69,x70,x576000=>if x70<x69 then (if 0≤x70 then (if x70<(x68.length:Int) then ((Qcf.f k x576000 (Qb3 x68 x70) x7).bind fun bt586=>(if bt586.2=true then (if (x8.length:Int)=0 then (none) else (if 0≤(Int.tmod (wrap64 (x70+1)) (x8.length:Int)) then (if (Int.tmod (wrap64 (x70+1)) (x8.length:Int))<(x8.length:Int) then ((Q8.f k bt586.1 (Qb3 x8 (Int.tmod (wrap64 (x70+1)) (x8.length:Int)))).bind fun t591=>(if t591=true then (if x70>0 then ((Q8.f k (Qb3 x68 x70) x6).bind fun t592=>(if t592=true then (none) else (laws_FnArrayOrbits.l0 k x1 x6 x7 x8 x68 x69 (wrap64 (x70+1)) x576000))) else (laws_FnArrayOrbits.l0 k x1 x6 x7 x8 x68 x69 (wrap64 (x70+1)) x576000)) else (none))) else (none)) else (none))) else (none))) else (none)) else (none)) else (laws_FnArrayOrbits.j2 k x1)
end
def laws_FnArrayOrbits.f (k : Nat) (l0 : List Int) (l1 : List Int) : Option (Bool) := (Qd9.f l0 l1).bind fun t567 => (if t567 = true then (some true) else ((Qz.f k l0).bind fun bt568 => ((Q7.f k bt568.1 bt568.2.1 bt568.2.2).bind fun bt576 => ((Qbe.f k bt568.1 bt568.2.1 bt568.2.2).bind fun bt580 => (if (bt576.2 != bt580.2) = true then (laws_FnArrayOrbits.j0 k l1 bt568.2.1 bt568.2.2 bt576.1 bt576.2 true bt568.1) else ((Qb7.f k bt576.1 bt580.1).bind fun t584 => (laws_FnArrayOrbits.j0 k l1 bt568.2.1 bt568.2.2 bt576.1 bt576.2 (!t584) bt568.1)))))))
theorem laws_FnArrayOrbits.mono_l : ∀ k, (∀ y0 y1 y2 y3 y4 y5 y6, LeO (laws_FnArrayOrbits.j0 k y0 y1 y2 y3 y4 y5 y6) (laws_FnArrayOrbits.j0 (k + 1) y0 y1 y2 y3 y4 y5 y6)) ∧ (∀ y0, LeO (laws_FnArrayOrbits.j2 k y0) (laws_FnArrayOrbits.j2 (k + 1) y0)) ∧ (∀ y0 y1 y2 y3 y4 y5, LeO (laws_FnArrayOrbits.j3 k y0 y1 y2 y3 y4 y5) (laws_FnArrayOrbits.j3 (k + 1) y0 y1 y2 y3 y4 y5)) ∧ (∀ y0 y1 y2 y3 y4 y5 y6 y7, LeO (laws_FnArrayOrbits.l0 k y0 y1 y2 y3 y4 y5 y6 y7) (laws_FnArrayOrbits.l0 (k + 1) y0 y1 y2 y3 y4 y5 y6 y7))
 |0=>⟨fun _ _ _ _ _ _ _ r h=>by simp [laws_FnArrayOrbits.j0] at h,fun _ r h=>by simp [laws_FnArrayOrbits.j2] at h,fun _ _ _ _ _ _ r h=>by simp [laws_FnArrayOrbits.j3] at h,fun _ _ _ _ _ _ _ _ r h=>by simp [laws_FnArrayOrbits.l0] at h⟩
 |k+1=>by
  obtain ⟨ih0,ih1,ih2,ih3⟩:=laws_FnArrayOrbits.mono_l k;refine ⟨?_,?_,?_,?_⟩
  ·
   intro y0 y1 y2 y3 y4 y5 y6;unfold laws_FnArrayOrbits.j0
   repeat' first
   |(with_reducible exact ih0 _ _ _ _ _ _ _)
   |(with_reducible exact ih1 _)
   |(with_reducible exact ih2 _ _ _ _ _ _)
   |(with_reducible exact ih3 _ _ _ _ _ _ _ _)
   |(with_reducible exact Q7.mono _ _ _ _)
   |(with_reducible exact Qcw.mono _ _)
   |(with_reducible exact Qct.mono _ _ _ _)
   |(with_reducible exact Qby.mono _ _ _ _)
   |(with_reducible exact Qcf.mono _ _ _ _)
   |(with_reducible exact Qca.mono _ _ _ _)
   |(with_reducible exact Qb7.mono _ _ _)
   |(with_reducible exact Q8.mono _ _ _)
   |(with_reducible exact Qbe.mono _ _ _ _)
   |(with_reducible exact Qz.mono _ _)
   |(with_reducible exact Qcd.mono _ _)
   |(with_reducible exact Qbp.mono _ _ _ _)
   |(with_reducible exact LeO.refl _)
   |(with_reducible exact LeO.none _)
   |(with_reducible refine LeO.ite ?_ ?_)
   |(with_reducible refine LeO.bind ?_ (fun _=> ?_))
   |exact ih0 _ _ _ _ _ _ _
   |exact ih1 _
   |exact ih2 _ _ _ _ _ _
   |exact ih3 _ _ _ _ _ _ _ _
   |exact Q7.mono _ _ _ _
   |exact Qcw.mono _ _
   |exact Qct.mono _ _ _ _
   |exact Qby.mono _ _ _ _
   |exact Qcf.mono _ _ _ _
   |exact Qca.mono _ _ _ _
   |exact Qb7.mono _ _ _
   |exact Q8.mono _ _ _
   |exact Qbe.mono _ _ _ _
   |exact Qz.mono _ _
   |exact Qcd.mono _ _
   |exact Qbp.mono _ _ _ _
   |exact LeO.none _
   |refine LeO.ite ?_ ?_
   |refine LeO.bind ?_ (fun _=> ?_)
  ·
   intro y0;unfold laws_FnArrayOrbits.j2
   repeat' first
   |(with_reducible exact ih0 _ _ _ _ _ _ _)
   |(with_reducible exact ih1 _)
   |(with_reducible exact ih2 _ _ _ _ _ _)
   |(with_reducible exact ih3 _ _ _ _ _ _ _ _)
   |(with_reducible exact Q7.mono _ _ _ _)
   |(with_reducible exact Qcw.mono _ _)
   |(with_reducible exact Qct.mono _ _ _ _)
   |(with_reducible exact Qby.mono _ _ _ _)
   |(with_reducible exact Qcf.mono _ _ _ _)
   |(with_reducible exact Qca.mono _ _ _ _)
   |(with_reducible exact Qb7.mono _ _ _)
   |(with_reducible exact Q8.mono _ _ _)
   |(with_reducible exact Qbe.mono _ _ _ _)
   |(with_reducible exact Qz.mono _ _)
   |(with_reducible exact Qcd.mono _ _)
   |(with_reducible exact Qbp.mono _ _ _ _)
   |(with_reducible exact LeO.refl _)
   |(with_reducible exact LeO.none _)
   |(with_reducible refine LeO.ite ?_ ?_)
   |(with_reducible refine LeO.bind ?_ (fun _=> ?_))
   |exact ih0 _ _ _ _ _ _ _
   |exact ih1 _
   |exact ih2 _ _ _ _ _ _
   |exact ih3 _ _ _ _ _ _ _ _
   |exact Q7.mono _ _ _ _
   |exact Qcw.mono _ _
   |exact Qct.mono _ _ _ _
   |exact Qby.mono _ _ _ _
   |exact Qcf.mono _ _ _ _
   |exact Qca.mono _ _ _ _
   |exact Qb7.mono _ _ _
   |exact Q8.mono _ _ _
   |exact Qbe.mono _ _ _ _
   |exact Qz.mono _ _
   |exact Qcd.mono _ _
   |exact Qbp.mono _ _ _ _
   |exact LeO.none _
   |refine LeO.ite ?_ ?_
   |refine LeO.bind ?_ (fun _=> ?_)
  ·
   intro y0 y1 y2 y3 y4 y5;unfold laws_FnArrayOrbits.j3
   repeat' first
   |(with_reducible exact ih0 _ _ _ _ _ _ _)
   |(with_reducible exact ih1 _)
   |(with_reducible exact ih2 _ _ _ _ _ _)
   |(with_reducible exact ih3 _ _ _ _ _ _ _ _)
   |(with_reducible exact Q7.mono _ _ _ _)
   |(with_reducible exact Qcw.mono _ _)
   |(with_reducible exact Qct.mono _ _ _ _)
   |(with_reducible exact Qby.mono _ _ _ _)
   |(with_reducible exact Qcf.mono _ _ _ _)
   |(with_reducible exact Qca.mono _ _ _ _)
   |(with_reducible exact Qb7.mono _ _ _)
   |(with_reducible exact Q8.mono _ _ _)
   |(with_reducible exact Qbe.mono _ _ _ _)
   |(with_reducible exact Qz.mono _ _)
   |(with_reducible exact Qcd.mono _ _)
   |(with_reducible exact Qbp.mono _ _ _ _)
   |(with_reducible exact LeO.refl _)
   |(with_reducible exact LeO.none _)
   |(with_reducible refine LeO.ite ?_ ?_)
   |(with_reducible refine LeO.bind ?_ (fun _=> ?_))
   |exact ih0 _ _ _ _ _ _ _
   |exact ih1 _
   |exact ih2 _ _ _ _ _ _
   |exact ih3 _ _ _ _ _ _ _ _
   |exact Q7.mono _ _ _ _
   |exact Qcw.mono _ _
   |exact Qct.mono _ _ _ _
   |exact Qby.mono _ _ _ _
   |exact Qcf.mono _ _ _ _
   |exact Qca.mono _ _ _ _
   |exact Qb7.mono _ _ _
   |exact Q8.mono _ _ _
   |exact Qbe.mono _ _ _ _
   |exact Qz.mono _ _
   |exact Qcd.mono _ _
   |exact Qbp.mono _ _ _ _
   |exact LeO.none _
   |refine LeO.ite ?_ ?_
   |refine LeO.bind ?_ (fun _=> ?_)
  ·
   intro y0 y1 y2 y3 y4 y5 y6 y7;unfold laws_FnArrayOrbits.l0
   repeat' first
   |(with_reducible exact ih0 _ _ _ _ _ _ _)
   |(with_reducible exact ih1 _)
   |(with_reducible exact ih2 _ _ _ _ _ _)
   |(with_reducible exact ih3 _ _ _ _ _ _ _ _)
   |(with_reducible exact Q7.mono _ _ _ _)
   |(with_reducible exact Qcw.mono _ _)
   |(with_reducible exact Qct.mono _ _ _ _)
   |(with_reducible exact Qby.mono _ _ _ _)
   |(with_reducible exact Qcf.mono _ _ _ _)
   |(with_reducible exact Qca.mono _ _ _ _)
   |(with_reducible exact Qb7.mono _ _ _)
   |(with_reducible exact Q8.mono _ _ _)
   |(with_reducible exact Qbe.mono _ _ _ _)
   |(with_reducible exact Qz.mono _ _)
   |(with_reducible exact Qcd.mono _ _)
   |(with_reducible exact Qbp.mono _ _ _ _)
   |(with_reducible exact LeO.refl _)
   |(with_reducible exact LeO.none _)
   |(with_reducible refine LeO.ite ?_ ?_)
   |(with_reducible refine LeO.bind ?_ (fun _=> ?_))
   |exact ih0 _ _ _ _ _ _ _
   |exact ih1 _
   |exact ih2 _ _ _ _ _ _
   |exact ih3 _ _ _ _ _ _ _ _
   |exact Q7.mono _ _ _ _
   |exact Qcw.mono _ _
   |exact Qct.mono _ _ _ _
   |exact Qby.mono _ _ _ _
   |exact Qcf.mono _ _ _ _
   |exact Qca.mono _ _ _ _
   |exact Qb7.mono _ _ _
   |exact Q8.mono _ _ _
   |exact Qbe.mono _ _ _ _
   |exact Qz.mono _ _
   |exact Qcd.mono _ _
   |exact Qbp.mono _ _ _ _
   |exact LeO.none _
   |refine LeO.ite ?_ ?_
   |refine LeO.bind ?_ (fun _=> ?_)
theorem laws_FnArrayOrbits.mono : ∀ a0 a1 k, LeO (laws_FnArrayOrbits.f k a0 a1) (laws_FnArrayOrbits.f (k + 1) a0 a1) := by
 intro a0 a1 k;obtain ⟨ih0,ih1,ih2,ih3⟩:=laws_FnArrayOrbits.mono_l k;unfold laws_FnArrayOrbits.f
 repeat' first
  |(with_reducible exact ih0 _ _ _ _ _ _ _)
  |(with_reducible exact ih1 _)
  |(with_reducible exact ih2 _ _ _ _ _ _)
  |(with_reducible exact ih3 _ _ _ _ _ _ _ _)
  |(with_reducible exact Q7.mono _ _ _ _)
  |(with_reducible exact Qcw.mono _ _)
  |(with_reducible exact Qct.mono _ _ _ _)
  |(with_reducible exact Qby.mono _ _ _ _)
  |(with_reducible exact Qcf.mono _ _ _ _)
  |(with_reducible exact Qca.mono _ _ _ _)
  |(with_reducible exact Qb7.mono _ _ _)
  |(with_reducible exact Q8.mono _ _ _)
  |(with_reducible exact Qbe.mono _ _ _ _)
  |(with_reducible exact Qz.mono _ _)
  |(with_reducible exact Qcd.mono _ _)
  |(with_reducible exact Qbp.mono _ _ _ _)
  |(with_reducible exact LeO.refl _)
  |(with_reducible exact LeO.none _)
  |(with_reducible refine LeO.ite ?_ ?_)
  |(with_reducible refine LeO.bind ?_ (fun _=> ?_))
  |exact ih0 _ _ _ _ _ _ _
  |exact ih1 _
  |exact ih2 _ _ _ _ _ _
  |exact ih3 _ _ _ _ _ _ _ _
  |exact Q7.mono _ _ _ _
  |exact Qcw.mono _ _
  |exact Qct.mono _ _ _ _
  |exact Qby.mono _ _ _ _
  |exact Qcf.mono _ _ _ _
  |exact Qca.mono _ _ _ _
  |exact Qb7.mono _ _ _
  |exact Q8.mono _ _ _
  |exact Qbe.mono _ _ _ _
  |exact Qz.mono _ _
  |exact Qcd.mono _ _
  |exact Qbp.mono _ _ _ _
  |exact LeO.none _
  |refine LeO.ite ?_ ?_
  |refine LeO.bind ?_ (fun _=> ?_)
set_option maxHeartbeats 8000000 in
set_option maxRecDepth 100000 in
theorem laws_FnArrayOrbits.calls (k : Nat) (A0 : Option Addr) (c0 : Nat) (l0 : List Int) (A1 : Option Addr) (c1 : Nat) (l1 : List Int) (r : Bool) (w : World) (hr0 : Kd.C (Kd.int .u8) w A0 l0.length l0) (hc0 : l0.length ≤ c0) (hr1 : Kd.C (Kd.int .u8) w A1 l1.length l1) (hc1 : l1.length ≤ c1) (h : laws_FnArrayOrbits.f k l0 l1 = some r) :
 Calls Try.prog 3 #[.slice A0 l0.length c0, .slice A1 l1.length c1] w fun e w'=>e= .returned (.bool r)∧Below w.heap.size w w':=by
 have hu26:=Try.underlying26;have HR0:=Aside0.mk hr0;have HC0:=Aside0.mk hc0;clear hr0 hc0;have HR1:=Aside0.mk hr1;have HC1:=Aside0.mk hc1;clear hr1 hc1;have HB:=Aside0.mk (Below.refl w.heap.size w);have H:((Qd9.f l0 l1).bind fun t567=>(if t567=true then (some true) else ((Qz.f k l0).bind fun bt568=>((Q7.f k bt568.1 bt568.2.1 bt568.2.2).bind fun bt576=>((Qbe.f k bt568.1 bt568.2.1 bt568.2.2).bind fun bt580=>(if (bt576.2 !=bt580.2)=true then (laws_FnArrayOrbits.j0 k l1 bt568.2.1 bt568.2.2 bt576.1 bt576.2 true bt568.1) else ((Qb7.f k bt576.1 bt580.1).bind fun t584=>(laws_FnArrayOrbits.j0 k l1 bt568.2.1 bt568.2.2 bt576.1 bt576.2 (!t584) bt568.1))))))))=some r:=h;clear h;replace H:=Option.bind_eq_some_iff.mp H;obtain ⟨t567,A30,H⟩:=H;replace H:(if t567=true then (some true) else ((Qz.f k l0).bind fun bt568=>((Q7.f k bt568.1 bt568.2.1 bt568.2.2).bind fun bt576=>((Qbe.f k bt568.1 bt568.2.1 bt568.2.2).bind fun bt580=>(if (bt576.2 !=bt580.2)=true then (laws_FnArrayOrbits.j0 k l1 bt568.2.1 bt568.2.2 bt576.1 bt576.2 true bt568.1) else ((Qb7.f k bt576.1 bt580.1).bind fun t584=>(laws_FnArrayOrbits.j0 k l1 bt568.2.1 bt568.2.2 bt576.1 bt576.2 (!t584) bt568.1)))))))=some r:=H;have A3:=Aside0.mk A30;clear A30
 by_cases c4:t567=true
 ·
  subst c4;have H1:(some true)=some r:=by rw [if_pos rfl] at H;exact H
  clear H;have H:=H1;clear H1;obtain rfl:=Option.some.inj H;go_enter Try.func3,Try.ntmps3;go_wp2_with (first|((with_reducible refine Qk (f:=6) rfl ?_);refine Q6 (some 37) rfl rfl Try.func6 (by kernel_rfl) rfl #[.slice A0 l0.length c0, .slice A1 l1.length c1] rfl (by (try simp only [List.map_toArray,List.map_cons,List.map_nil]);first|done|rfl|(simp only [List.length_drop,List.length_take];rfl)) ?_;(with_reducible refine (Qd9.calls _ _ l0 _ _ l1 true _ ?side1 ?side2 ?side3 ?side4 A3.out).mono ?_);(case side1=>repeat (first|exact HR0.out|(with_reducible refine Kd.C_alloc ?_ _)|(with_reducible refine Kd.C_drewN ?_ _)|(with_reducible refine Kd.C_drew ?_)));(case side2=>exact HC0.out);(case side3=>repeat (first|exact HR1.out|(with_reducible refine Kd.C_alloc ?_ _)|(with_reducible refine Kd.C_drewN ?_ _)|(with_reducible refine Kd.C_drew ?_)));(case side4=>exact HC1.out);rintro e w' ⟨rfl,⟨nd,rfl⟩⟩;refine ⟨_,rfl,?_⟩))
  go_ret
  exact ⟨by first|rfl|(simp [Qm,Ql] <;>rfl)|(simp [*,Qm,Ql] <;>rfl),by repeat (first|(with_reducible first|exact HB.out|apply Qc|apply Qa|apply Qd)|exact HB.out)⟩
 ·
  replace c4:=Bool.eq_false_iff.mpr c4;subst c4;have H1:((Qz.f k l0).bind fun bt568=>((Q7.f k bt568.1 bt568.2.1 bt568.2.2).bind fun bt576=>((Qbe.f k bt568.1 bt568.2.1 bt568.2.2).bind fun bt580=>(if (bt576.2 !=bt580.2)=true then (laws_FnArrayOrbits.j0 k l1 bt568.2.1 bt568.2.2 bt576.1 bt576.2 true bt568.1) else ((Qb7.f k bt576.1 bt580.1).bind fun t584=>(laws_FnArrayOrbits.j0 k l1 bt568.2.1 bt568.2.2 bt576.1 bt576.2 (!t584) bt568.1))))))=some r:=by rw [if_neg (show ¬ (false=true) by decide)] at H;exact H
  clear H;have H:=H1;clear H1;replace H:=Option.bind_eq_some_iff.mp H;obtain ⟨⟨t568,t571,t574⟩,A50,H⟩:=H;replace H:((Q7.f k t568 t571 t574).bind fun bt576=>((Qbe.f k t568 t571 t574).bind fun bt580=>(if (bt576.2 !=bt580.2)=true then (laws_FnArrayOrbits.j0 k l1 t571 t574 bt576.1 bt576.2 true t568) else ((Qb7.f k bt576.1 bt580.1).bind fun t584=>(laws_FnArrayOrbits.j0 k l1 t571 t574 bt576.1 bt576.2 (!t584) t568)))))=some r:=H;have A5:=Aside0.mk A50;clear A50;replace H:=Option.bind_eq_some_iff.mp H;obtain ⟨⟨t576,t579⟩,A60,H⟩:=H;replace H:((Qbe.f k t568 t571 t574).bind fun bt580=>(if (t579 !=bt580.2)=true then (laws_FnArrayOrbits.j0 k l1 t571 t574 t576 t579 true t568) else ((Qb7.f k t576 bt580.1).bind fun t584=>(laws_FnArrayOrbits.j0 k l1 t571 t574 t576 t579 (!t584) t568))))=some r:=H;have A6:=Aside0.mk A60;clear A60;replace H:=Option.bind_eq_some_iff.mp H;obtain ⟨⟨t580,t583⟩,A70,H⟩:=H;replace H:(if (t579 !=t583)=true then (laws_FnArrayOrbits.j0 k l1 t571 t574 t576 t579 true t568) else ((Qb7.f k t576 t580).bind fun t584=>(laws_FnArrayOrbits.j0 k l1 t571 t574 t576 t579 (!t584) t568)))=some r:=H;have A7:=Aside0.mk A70;clear A70;have HC8:=Aside0.mk H;clear H;go_enter Try.func3,Try.ntmps3;go_upto_region 6 with (first|((with_reducible refine Qk (f:=6) rfl ?_);refine Q6 (some 37) rfl rfl Try.func6 (by kernel_rfl) rfl #[.slice A0 l0.length c0, .slice A1 l1.length c1] rfl (by (try simp only [List.map_toArray,List.map_cons,List.map_nil]);first|done|rfl|(simp only [List.length_drop,List.length_take];rfl)) ?_;(with_reducible refine (Qd9.calls _ _ l0 _ _ l1 false _ ?side1 ?side2 ?side3 ?side4 A3.out).mono ?_);(case side1=>repeat (first|exact HR0.out|(with_reducible refine Kd.C_alloc ?_ _)|(with_reducible refine Kd.C_drewN ?_ _)|(with_reducible refine Kd.C_drew ?_)));(case side2=>exact HC0.out);(case side3=>repeat (first|exact HR1.out|(with_reducible refine Kd.C_alloc ?_ _)|(with_reducible refine Kd.C_drewN ?_ _)|(with_reducible refine Kd.C_drew ?_)));(case side4=>exact HC1.out);rintro e w' ⟨rfl,⟨nd,rfl⟩⟩;refine ⟨_,rfl,?_⟩)|((with_reducible refine Qk (f:=7) rfl ?_);refine Q6 (some 40) rfl rfl Try.func7 (by kernel_rfl) rfl #[.slice A0 l0.length c0] rfl (by (try simp only [List.map_toArray,List.map_cons,List.map_nil]);first|done|rfl|(simp only [List.length_drop,List.length_take];rfl)) ?_;(with_reducible refine (Qz.calls k _ _ l0 t568 t571 t574 _ ?side1 ?side2 A5.out).mono ?_);(case side1=>repeat (first|exact HR0.out|(with_reducible refine Kd.C_alloc ?_ _)|(with_reducible refine Kd.C_drewN ?_ _)|(with_reducible refine Kd.C_drew ?_)));(case side2=>exact HC0.out);rintro e w9 ⟨v569,v572,rfl,ho0,ho1,hb⟩;refine ⟨_,rfl,?_⟩;have HO570:=Aside0.mk (Kd.R_lower ho0 (Qq (by repeat (first|(with_reducible first|exact HB.out|apply Qc|apply Qa|apply Qd)|exact HB.out))));have HO573:=Aside0.mk (Kd.R_lower ho1 (Qq (by repeat (first|(with_reducible first|exact HB.out|apply Qc|apply Qa|apply Qd)|exact HB.out))));replace HB:=Aside0.mk (Qj (by repeat (first|(with_reducible first|exact HB.out|apply Qc|apply Qa|apply Qd)|exact HB.out)) hb);(try clear hb);(try clear hb2);(try clear hk);(try clear hi);(try clear ho0);(try clear ho1))|((with_reducible refine Qbb (N:=5) rfl ?_);(try (refine Qdr (by rfl) ?_;dsimp only));refine Qbg ?hg (N:=5) ?hd (cs:= #[.slice none 0 0]) (t:=26) ?hr ?_;(case hd=>rfl);(case hg=>rfl);(case hr=>first|(go_simp;done)|(go_simp;rfl));intro gb575 hg w10 hbox hb;replace HO570:=Aside0.mk (Kd.R_below (by (with_reducible repeat (first|apply Kd.R_alloc|apply Kd.R_drewN|apply Kd.R_drew));exact HO570.out) hb);replace HO573:=Aside0.mk (Kd.R_below (by (with_reducible repeat (first|apply Kd.R_alloc|apply Kd.R_drewN|apply Kd.R_drew));exact HO573.out) hb);have BK575:=Aside0.mk (hbox);have GW575:=Aside0.mk ((by rw [hg];exact (Qq (by repeat (first|(with_reducible first|exact HB.out|apply Qc|apply Qa|apply Qd)|exact HB.out))):w.heap.size≤gb575));have GE575:=GW575;replace HB:=Aside0.mk (Qj (by repeat (first|(with_reducible first|exact HB.out|apply Qc|apply Qa|apply Qd)|exact HB.out)) hb);clear hb hbox hg;obtain ⟨Ao11,co11,eo11⟩:=Kd.R_slice HO570.out;subst eo11;have hcz12_0:w10.cell? ⟨gb575,0,none⟩=some (.slice none 0 0):=(Qx BK575.out 0).trans rfl;have hfz12_0:=Qp BK575.out 0;obtain ⟨Ao13,co13,eo13⟩:=Kd.R_slice HO573.out;subst eo13)|((with_reducible refine Qk (f:=8) rfl ?_);refine Q6 (some 48) rfl rfl Try.func8 (by kernel_rfl) rfl #[.agg #[.slice Ao11 t568.length co11], .slice Ao13 t571.length co13, .int .i64 t574] rfl (by (try simp only [List.map_toArray,List.map_cons,List.map_nil]);first|done|rfl|(simp only [List.length_drop,List.length_take];rfl)) ?_;(with_reducible refine (Q7.calls k _ _ t568 _ _ t571 t574 t576 t579 _ ?side1 ?side2 ?side3 ?side4 A6.out).mono ?_);(case side1=>refine (Kd.R_reads' (e:=3) (base:=w.heap.size) (ok:=fun k_=>some k_≠(.slice Ao13 t571.length co13:Value).ownBlock) (n:=t568.length) (c:=co11) ?_).2.2;exact (by (with_reducible repeat (first|apply Kd.R_alloc|apply Kd.R_drewN|apply Kd.R_drew));exact (Kd.R_mono (Kd.R_far (p:=⟨gb575,0,none⟩) (Kd.R_types HO570.out BK575.out (by decide)) (fun _ hk=>hk.2) (.slice Ao11 t568.length co11)) (fun _ h_=>h_.1))));(case side2=>exact (Kd.R_reads' HO570.out).2.1);(case side3=>refine (Kd.R_reads' (e:=3) (base:=w.heap.size) (ok:=fun k_=>some k_≠(.slice Ao11 t568.length co11:Value).ownBlock) (n:=t571.length) (c:=co13) ?_).2.2;exact (by (with_reducible repeat (first|apply Kd.R_alloc|apply Kd.R_drewN|apply Kd.R_drew));exact (Kd.R_mono (Kd.R_far (p:=⟨gb575,0,none⟩) (Kd.R_types HO573.out BK575.out (by decide)) (fun _ hk=>hk.2) (.slice Ao11 t568.length co11)) (fun _ h_=>h_.1))));(case side4=>exact (Kd.R_reads' HO573.out).2.1);rintro e w14 ⟨v577,rfl,ho0,hb⟩;refine ⟨_,rfl,?_⟩;have HO578:=Aside0.mk (Kd.N_lower (Kd.N_mono (ok':=fun k_=>some k_≠(.slice Ao11 t568.length co11:Value).ownBlock∧some k_≠(.slice Ao13 t571.length co13:Value).ownBlock∧k_≠gb575) (Kd.S_N (Kd.S_bound ho0)) (fun k_ hk_=>⟨(Kd.fresh' (Kd.R_lt (by (with_reducible repeat (first|apply Kd.R_alloc|apply Kd.R_drewN|apply Kd.R_drew));exact (Kd.R_mono (Kd.R_far (p:=⟨gb575,0,none⟩) (Kd.R_types HO570.out BK575.out (by decide)) (fun _ hk=>hk.2) (.slice Ao11 t568.length co11)) (fun _ h_=>h_.1)))) k_ hk_.2.1),(Kd.fresh' (Kd.R_lt (by (with_reducible repeat (first|apply Kd.R_alloc|apply Kd.R_drewN|apply Kd.R_drew));exact (Kd.R_mono (Kd.R_far (p:=⟨gb575,0,none⟩) (Kd.R_types HO573.out BK575.out (by decide)) (fun _ hk=>hk.2) (.slice Ao11 t568.length co11)) (fun _ h_=>h_.1)))) k_ hk_.2.1),(Kd.freshB (g:=gb575) (o:= .cells #[.slice Ao11 t568.length co11] 26 (0,0)) (by (with_reducible repeat (first|refine Qg ?_ _|refine Qh ?_|refine Qf ?_ _));refine Qcn (cs:= #[.slice none 0 0]) ?_ 0 _ rfl;(with_reducible repeat (first|refine Qg ?_ _|refine Qh ?_|refine Qf ?_ _));exact BK575.out) k_ hk_.2.1)⟩)) (Qq (by repeat (first|(with_reducible first|exact HB.out|apply Qc|apply Qa|apply Qd|refine Qe ?_ GE575.out)|exact HB.out))));replace HO570:=Aside0.mk (Kd.R_below (by (with_reducible repeat (first|apply Kd.R_alloc|apply Kd.R_drewN|apply Kd.R_drew));exact (Kd.R_mono (Kd.R_far (p:=⟨gb575,0,none⟩) (Kd.R_types HO570.out BK575.out (by decide)) (fun _ hk=>hk.2) (.slice Ao11 t568.length co11)) (fun _ h_=>h_.1))) hb);replace HO573:=Aside0.mk (Kd.R_below (by (with_reducible repeat (first|apply Kd.R_alloc|apply Kd.R_drewN|apply Kd.R_drew));exact (Kd.R_mono (Kd.R_far (p:=⟨gb575,0,none⟩) (Kd.R_types HO573.out BK575.out (by decide)) (fun _ hk=>hk.2) (.slice Ao11 t568.length co11)) (fun _ h_=>h_.1))) hb);replace BK575:=Aside0.mk (Qu (g:=gb575) (o:= .cells #[.slice Ao11 t568.length co11] 26 (0,0)) (by (with_reducible repeat (first|refine Qg ?_ _|refine Qh ?_|refine Qf ?_ _));refine Qcn (cs:= #[.slice none 0 0]) ?_ 0 _ rfl;(with_reducible repeat (first|refine Qg ?_ _|refine Qh ?_|refine Qf ?_ _));exact BK575.out) hb);replace HB:=Aside0.mk (Qj (by repeat (first|(with_reducible first|exact HB.out|apply Qc|apply Qa|apply Qd|refine Qe ?_ GE575.out)|exact HB.out)) hb);(try clear hb);(try clear hb2);(try clear hk);(try clear hi);(try clear ho0);have hcz15_0:w14.cell? ⟨gb575,0,none⟩=some (.slice Ao11 t568.length co11):=(Qx BK575.out 0).trans rfl;have hfz15_0:=Qp BK575.out 0)|((with_reducible refine Qk (f:=9) rfl ?_);refine Q6 (some 55) rfl rfl Try.func9 (by kernel_rfl) rfl #[.agg #[.slice Ao11 t568.length co11], .slice Ao13 t571.length co13, .int .i64 t574] rfl (by (try simp only [List.map_toArray,List.map_cons,List.map_nil]);first|done|rfl|(simp only [List.length_drop,List.length_take];rfl)) ?_;(with_reducible refine (Qbe.calls k _ _ t568 _ _ t571 t574 t580 t583 _ ?side1 ?side2 ?side3 ?side4 A7.out).mono ?_);(case side1=>repeat (first|exact (Kd.R_reads' HO570.out).2.2|(with_reducible refine Kd.C_alloc ?_ _)|(with_reducible refine Kd.C_drewN ?_ _)|(with_reducible refine Kd.C_drew ?_)));(case side2=>exact (Kd.R_reads' HO570.out).2.1);(case side3=>repeat (first|exact (Kd.R_reads' HO573.out).2.2|(with_reducible refine Kd.C_alloc ?_ _)|(with_reducible refine Kd.C_drewN ?_ _)|(with_reducible refine Kd.C_drew ?_)));(case side4=>exact (Kd.R_reads' HO573.out).2.1);rintro e w16 ⟨v581,rfl,ho0,hb⟩;refine ⟨_,rfl,?_⟩;have HO582:=Aside0.mk (Kd.N_lower (Kd.N_mono (ok':=fun k_=>some k_≠(.slice Ao11 t568.length co11:Value).ownBlock∧some k_≠(.slice Ao13 t571.length co13:Value).ownBlock∧some k_≠(v577:Value).ownBlock∧k_≠gb575) ho0 (fun k_ hk_=>⟨(Kd.fresh' (Kd.R_lt (by (with_reducible repeat (first|apply Kd.R_alloc|apply Kd.R_drewN|apply Kd.R_drew));exact HO570.out)) k_ hk_),(Kd.fresh' (Kd.R_lt (by (with_reducible repeat (first|apply Kd.R_alloc|apply Kd.R_drewN|apply Kd.R_drew));exact HO573.out)) k_ hk_),(Kd.fresh' (Kd.N_lt (by (with_reducible repeat (first|apply Kd.N_alloc|apply Kd.N_drewN|apply Kd.N_drew));exact HO578.out)) k_ hk_),(Kd.freshB (g:=gb575) (o:= .cells #[.slice Ao11 t568.length co11] 26 (0,0)) (by (with_reducible repeat (first|refine Qg ?_ _|refine Qh ?_|refine Qf ?_ _));exact BK575.out) k_ hk_)⟩)) (Qq (by repeat (first|(with_reducible first|exact HB.out|apply Qc|apply Qa|apply Qd|refine Qe ?_ GE575.out)|exact HB.out))));replace HO570:=Aside0.mk (Kd.R_below (by (with_reducible repeat (first|apply Kd.R_alloc|apply Kd.R_drewN|apply Kd.R_drew));exact HO570.out) hb);replace HO573:=Aside0.mk (Kd.R_below (by (with_reducible repeat (first|apply Kd.R_alloc|apply Kd.R_drewN|apply Kd.R_drew));exact HO573.out) hb);replace HO578:=Aside0.mk (Kd.N_elder' (by (with_reducible repeat (first|apply Kd.N_alloc|apply Kd.N_drewN|apply Kd.N_drew));exact HO578.out) (Kd.N_base ho0) hb);replace BK575:=Aside0.mk (Qu (g:=gb575) (o:= .cells #[.slice Ao11 t568.length co11] 26 (0,0)) (by (with_reducible repeat (first|refine Qg ?_ _|refine Qh ?_|refine Qf ?_ _));exact BK575.out) hb);replace HB:=Aside0.mk (Qj (by repeat (first|(with_reducible first|exact HB.out|apply Qc|apply Qa|apply Qd|refine Qe ?_ GE575.out)|exact HB.out)) hb);(try clear hb);(try clear hb2);(try clear hk);(try clear hi);(try clear ho0)))
  (try simp only [Act.put,List.setIfInBounds_toArray,List.set_cons_zero,List.set_cons_succ])
  go_cut [66] (fun v66 wc=> ∃ (kq:Nat) (x66_7:Bool),v66= .bool x66_7∧Aside0 (laws_FnArrayOrbits.j0 kq l1 t571 t574 t576 t579 x66_7 t568=some r)∧Aside0 (kq≤k)∧Aside0 (Kd.R (Kd.int .i64) 3 wc w.heap.size (fun k_=>some k_≠((.slice Ao11 t568.length co11):Value).ownBlock) (.slice Ao13 t571.length co13) t571)∧Aside0 (Kd.N (Kd.slice 3 (Kd.int .i64)) 24 wc w.heap.size (fun k_=>some k_≠((.slice Ao13 t571.length co13):Value).ownBlock∧some k_≠((.slice Ao11 t568.length co11):Value).ownBlock∧k_≠gb575) v577 t576)∧Aside0 (Kd.R (Kd.int .i64) 3 wc w.heap.size (fun k_=>some k_≠((.slice Ao13 t571.length co13):Value).ownBlock) (.slice Ao11 t568.length co11) t568)∧Aside0 (wc.heap[gb575]? =some (.cells #[(.slice Ao11 t568.length co11)] 26 (0,0)))∧Aside0 (Below w.heap.size w wc))
  case first=>
   have H:=HC8.out;clear HC8
   by_cases c17:(t579 !=t583)=true
   ·
    rw [if_pos c17] at H;have c17b0:(t579 !=t583)=true:=c17
    (try (have c17b1:decide (t579=t583)=false:=by simpa using c17))
    (try (have c17b2:(t579==t583)=false:=by simpa using c17))
    (try (have c17b3: ¬ (t579=t583):=by simpa using c17))
    clear c17
    (first|rw [c17b0] |(simp only [Qcb,Qcj];rw [c17b0])|skip)
    have H':=Aside0.mk H;clear H;go_wp2
    go_meet
    case rel=>exact ⟨_,(true),(by first|rfl|(simp;done)|(simp [*];done)),H',⟨by first|omega|exact Nat.le_refl _⟩,⟨by (with_reducible repeat (first|apply Kd.R_alloc|apply Kd.R_drewN|apply Kd.R_drew));exact HO573.out⟩,⟨by (with_reducible repeat (first|apply Kd.N_alloc|apply Kd.N_drewN|apply Kd.N_drew));exact Kd.N_mono HO578.out (fun _ hk=>⟨hk.1.2.1,⟨hk.1.1,hk.1.2.2⟩⟩)⟩,⟨by (with_reducible repeat (first|apply Kd.R_alloc|apply Kd.R_drewN|apply Kd.R_drew));exact HO570.out⟩,⟨by (with_reducible repeat (first|refine Qg ?_ _|refine Qh ?_|refine Qf ?_ _));exact BK575.out⟩,⟨by repeat (first|(with_reducible first|exact HB.out|apply Qc|apply Qa|apply Qd|refine Qe ?_ GE575.out)|exact HB.out)⟩⟩
   ·
    rw [if_neg c17] at H;have c17b0:(t579 !=t583)=false:=by simpa using c17
    (try (have c17b1:decide (t579=t583)=true:=by simpa using c17))
    (try (have c17b2:(t579==t583)=true:=by simpa using c17))
    clear c17
    (first|rw [c17b0] |(simp only [Qcb,Qcj];rw [c17b0])|skip)
    replace H:=Option.bind_eq_some_iff.mp H;obtain ⟨t584,A180,H⟩:=H;replace H:(laws_FnArrayOrbits.j0 k l1 t571 t574 t576 t579 (!t584) t568)=some r:=H;have A18:=Aside0.mk A180;clear A180;have H':=Aside0.mk H;clear H;obtain ⟨Ao19,co19,eo19⟩:=Kd.N_slice HO578.out;subst eo19;obtain ⟨Ao20,co20,eo20⟩:=Kd.N_slice HO582.out;subst eo20;go_wp2_with (first|(go_at_call 10;(with_reducible refine (Qb7.calls k _ _ t576 _ _ t580 t584 _ ?side1 ?side2 ?side3 ?side4 A18.out).mono ?_);(case side1=>repeat (first|exact (Kd.N_reads' HO578.out).2.2|(with_reducible refine Kd.C_alloc ?_ _)|(with_reducible refine Kd.C_drewN ?_ _)|(with_reducible refine Kd.C_drew ?_)));(case side2=>exact (Kd.N_reads' HO578.out).2.1);(case side3=>repeat (first|exact (Kd.N_reads' HO582.out).2.2|(with_reducible refine Kd.C_alloc ?_ _)|(with_reducible refine Kd.C_drewN ?_ _)|(with_reducible refine Kd.C_drew ?_)));(case side4=>exact (Kd.N_reads' HO582.out).2.1);rintro e w' ⟨rfl,⟨nd,rfl⟩⟩))
    go_meet
    case rel=>exact ⟨_,(!t584),(by first|rfl|(simp;done)|(simp [*];done)),H',⟨by first|omega|exact Nat.le_refl _⟩,⟨by (with_reducible repeat (first|apply Kd.R_alloc|apply Kd.R_drewN|apply Kd.R_drew));exact HO573.out⟩,⟨by (with_reducible repeat (first|apply Kd.N_alloc|apply Kd.N_drewN|apply Kd.N_drew));exact Kd.N_mono HO578.out (fun _ hk=>⟨hk.1.2.1,⟨hk.1.1,hk.1.2.2⟩⟩)⟩,⟨by (with_reducible repeat (first|apply Kd.R_alloc|apply Kd.R_drewN|apply Kd.R_drew));exact HO570.out⟩,⟨by (with_reducible repeat (first|refine Qg ?_ _|refine Qh ?_|refine Qf ?_ _));exact BK575.out⟩,⟨by repeat (first|(with_reducible first|exact HB.out|apply Qc|apply Qa|apply Qd|refine Qe ?_ GE575.out)|exact HB.out)⟩⟩
  case rest=>
   clear HC8
   try clear c1
   try clear p2
   try clear c3
   try clear c4
   try clear c6
   try clear c7
   try clear c8
   try clear c9
   try clear c17
   try clear c17b0
   try clear c17b1
   try clear c17b2
   try clear hcz12_0
   try clear hcz15_0
   try clear hfz12_0
   try clear hfz15_0
   obtain ⟨kq,x66_7,rfl,HA,HJ7,HO_6,HO_8,HO_576000,BK575,HB⟩:=hcut;cases kq with
   |zero=>exact absurd HA.out (by simp [laws_FnArrayOrbits.j0])
   |succ kj7=>
    have H:=HA.out;clear HA;simp only [laws_FnArrayOrbits.j0] at H
    by_cases c21:x66_7=true
    ·
     subst c21;have H1:(none)=some r:=by rw [if_pos rfl] at H;exact H
     clear H;have H:=H1;clear H1;exact absurd H (by simp)
    ·
     replace c21:=Bool.eq_false_iff.mpr c21;subst c21;have H1:(if t579=true then (laws_FnArrayOrbits.l0 kj7 l1 t571 t574 t576 t576 (t576.length:Int) 0 t568) else (laws_FnArrayOrbits.j2 kj7 l1))=some r:=by rw [if_neg (show ¬ (false=true) by decide)] at H;exact H
     clear H;have H:=H1;clear H1;have HC22:=Aside0.mk H;clear H
     go_upto_if 67 with (fail)
     go_cut [] (fun wc=> ∃ (kq:Nat),Aside0 (laws_FnArrayOrbits.j2 kq l1=some r)∧Aside0 (kq≤kj7)∧Aside0 (Kd.R (Kd.int .i64) 3 wc w.heap.size (fun _=>True) (.slice Ao11 t568.length co11) t568)∧Aside0 (wc.heap[gb575]? =some (.cells #[(.slice Ao11 t568.length co11)] 26 (0,0)))∧Aside0 (Below w.heap.size w wc))
     case first=>
      have H:=HC22.out;clear HC22
      by_cases c23:t579=true
      ·
       subst c23;have H1:(laws_FnArrayOrbits.l0 kj7 l1 t571 t574 t576 t576 (t576.length:Int) 0 t568)=some r:=by rw [if_pos rfl] at H;exact H
       clear H;have H:=H1;clear H1;have H':=Aside0.mk H;clear H;obtain ⟨Ao24,co24,eo24⟩:=Kd.N_slice HO_8.out;subst eo24;go_wp2
       go_loopg [70] kj7 (fun kq v70 w'=> ∃ (x70_2:Int),v70= .int .i64 x70_2∧Aside0 (laws_FnArrayOrbits.l0 kq l1 t571 t574 t576 t576 (t576.length:Int) x70_2 t568=some r)∧Aside0 (kq≤kj7)∧Aside0 (Kd.R (Kd.int .i64) 3 w' w.heap.size (fun k_=>some k_≠((.slice Ao11 t568.length co11):Value).ownBlock) (.slice Ao13 t571.length co13) t571)∧Aside0 (Kd.N (Kd.slice 3 (Kd.int .i64)) 24 w' w.heap.size (fun k_=>some k_≠((.slice Ao13 t571.length co13):Value).ownBlock∧some k_≠((.slice Ao11 t568.length co11):Value).ownBlock∧k_≠gb575) (.slice Ao24 t576.length co24) t576)∧Aside0 (Kd.N (Kd.slice 3 (Kd.int .i64)) 24 w' w.heap.size (fun k_=>some k_≠((.slice Ao13 t571.length co13):Value).ownBlock∧some k_≠((.slice Ao11 t568.length co11):Value).ownBlock∧k_≠gb575) (.slice Ao24 t576.length co24) t576)∧Aside0 (Kd.R (Kd.int .i64) 3 w' w.heap.size (fun k_=>some k_≠((.slice Ao13 t571.length co13):Value).ownBlock) (.slice Ao11 t568.length co11) t568)∧Aside0 (w'.heap[gb575]? =some (.cells #[(.slice Ao11 t568.length co11)] 26 (0,0)))∧Aside0 (Below w.heap.size w w'))
       case atStart=>exact ⟨(0),(by first|rfl|(simp;done)|(simp [*];done)),H',⟨Nat.le_refl _⟩,⟨by (with_reducible repeat (first|apply Kd.R_alloc|apply Kd.R_drewN|apply Kd.R_drew));exact HO_6.out⟩,⟨by (with_reducible repeat (first|apply Kd.N_alloc|apply Kd.N_drewN|apply Kd.N_drew));exact HO_8.out⟩,⟨by (with_reducible repeat (first|apply Kd.N_alloc|apply Kd.N_drewN|apply Kd.N_drew));exact HO_8.out⟩,⟨by (with_reducible repeat (first|apply Kd.R_alloc|apply Kd.R_drewN|apply Kd.R_drew));exact HO_576000.out⟩,⟨by (with_reducible repeat (first|refine Qg ?_ _|refine Qh ?_|refine Qf ?_ _));exact BK575.out⟩,⟨by repeat (first|(with_reducible first|exact HB.out|apply Qc|apply Qa|apply Qd|refine Qe ?_ GE575.out)|exact HB.out)⟩⟩
       case round=>
        clear H'
        try clear c1
        try clear c2
        try clear p2
        try clear c3
        try clear c4
        try clear c6
        try clear c7
        try clear c8
        try clear c9
        try clear c17
        try clear c17b0
        try clear c17b1
        try clear c17b2
        try clear c21
        try clear c23
        try clear hcz12_0
        try clear hcz15_0
        try clear hfz12_0
        try clear hfz15_0
        try clear p2
        obtain ⟨x70_2,rfl,HA,HK2,HO_6,HO_8,HO_68,HO_576000,BK575,HB⟩:=hrel;cases gk with
        |zero=>exact absurd HA.out (by simp [laws_FnArrayOrbits.l0])
        |succ k2=>
         have H:=HA.out;clear HA;simp only [laws_FnArrayOrbits.l0] at H
         by_cases c25:x70_2<(t576.length:Int)
         ·
          rw [if_pos c25] at H;have c25b0:decide (x70_2<(t576.length:Int))=true:=decide_eq_true c25;clear c25
          (first|rw [c25b0] |(simp only [Qcb,Qcj];rw [c25b0])|skip)
          by_cases c26:0≤x70_2
          ·
           rw [if_pos c26] at H;have c26b0:decide (0≤x70_2)=true:=decide_eq_true c26;clear c26
           by_cases c27:x70_2<(t576.length:Int)
           ·
            rw [if_pos c27] at H;have c27b0:decide (x70_2<(t576.length:Int))=true:=decide_eq_true c27;clear c27;replace H:=Option.bind_eq_some_iff.mp H;obtain ⟨⟨t586,t589⟩,A280,H⟩:=H;replace H:(if t589=true then (if (t576.length:Int)=0 then (none) else (if 0≤(Int.tmod (wrap64 (x70_2+1)) (t576.length:Int)) then (if (Int.tmod (wrap64 (x70_2+1)) (t576.length:Int))<(t576.length:Int) then ((Q8.f k2 t586 (Qb3 t576 (Int.tmod (wrap64 (x70_2+1)) (t576.length:Int)))).bind fun t591=>(if t591=true then (if x70_2>0 then ((Q8.f k2 (Qb3 t576 x70_2) t571).bind fun t592=>(if t592=true then (none) else (laws_FnArrayOrbits.l0 k2 l1 t571 t574 t576 t576 (t576.length:Int) (wrap64 (x70_2+1)) t568))) else (laws_FnArrayOrbits.l0 k2 l1 t571 t574 t576 t576 (t576.length:Int) (wrap64 (x70_2+1)) t568)) else (none))) else (none)) else (none))) else (none))=some r:=H;have A28:=Aside0.mk A280;clear A280
            by_cases c29:t589=true
            ·
             subst c29;have H1:(if (t576.length:Int)=0 then (none) else (if 0≤(Int.tmod (wrap64 (x70_2+1)) (t576.length:Int)) then (if (Int.tmod (wrap64 (x70_2+1)) (t576.length:Int))<(t576.length:Int) then ((Q8.f k2 t586 (Qb3 t576 (Int.tmod (wrap64 (x70_2+1)) (t576.length:Int)))).bind fun t591=>(if t591=true then (if x70_2>0 then ((Q8.f k2 (Qb3 t576 x70_2) t571).bind fun t592=>(if t592=true then (none) else (laws_FnArrayOrbits.l0 k2 l1 t571 t574 t576 t576 (t576.length:Int) (wrap64 (x70_2+1)) t568))) else (laws_FnArrayOrbits.l0 k2 l1 t571 t574 t576 t576 (t576.length:Int) (wrap64 (x70_2+1)) t568)) else (none))) else (none)) else (none)))=some r:=by rw [if_pos rfl] at H;exact H
             clear H;have H:=H1;clear H1
             by_cases c30:(t576.length:Int)=0
             ·
              rw [if_pos c30] at H;exact absurd H (by simp)
             ·
              rw [if_neg c30] at H;have c30b0:((t576.length:Int)==0)=false:=beq_eq_false_iff_ne.mpr c30;have c30b1:((t576.length:Int) !=0)=true:=bne_iff_ne.mpr c30;have c30b2: ¬ (t576= []):=fun h_=>c30 (by rw [h_];rfl)
              obtain ⟨ji31,hji31⟩: ∃ j_:Int,(Int.tmod (wrap64 (x70_2+1)) (t576.length:Int))=j_:=⟨_,rfl⟩
              replace H:(if 0≤(ji31) then (if (ji31)<(t576.length:Int) then ((Q8.f k2 t586 (Qb3 t576 (ji31))).bind fun t591=>(if t591=true then (if x70_2>0 then ((Q8.f k2 (Qb3 t576 x70_2) t571).bind fun t592=>(if t592=true then (none) else (laws_FnArrayOrbits.l0 k2 l1 t571 t574 t576 t576 (t576.length:Int) (wrap64 (x70_2+1)) t568))) else (laws_FnArrayOrbits.l0 k2 l1 t571 t574 t576 t576 (t576.length:Int) (wrap64 (x70_2+1)) t568)) else (none))) else (none)) else (none))=some r:=by first|(rw [hji31] at H;exact H)|(simp only [hji31] at H ⊢;exact H)
              (try rw [hji31] at A28)
              by_cases c32:0≤(ji31)
              ·
               rw [if_pos c32] at H;have c32b0:decide (0≤(ji31))=true:=decide_eq_true c32;clear c32
               by_cases c33:(ji31)<(t576.length:Int)
               ·
                rw [if_pos c33] at H;have c33b0:decide ((ji31)<(t576.length:Int))=true:=decide_eq_true c33;clear c33;replace H:=Option.bind_eq_some_iff.mp H;obtain ⟨t591,A340,H⟩:=H;replace H:(if t591=true then (if x70_2>0 then ((Q8.f k2 (Qb3 t576 x70_2) t571).bind fun t592=>(if t592=true then (none) else (laws_FnArrayOrbits.l0 k2 l1 t571 t574 t576 t576 (t576.length:Int) (wrap64 (x70_2+1)) t568))) else (laws_FnArrayOrbits.l0 k2 l1 t571 t574 t576 t576 (t576.length:Int) (wrap64 (x70_2+1)) t568)) else (none))=some r:=H;have A34:=Aside0.mk A340;clear A340
                by_cases c35:t591=true
                ·
                 subst c35;have H1:(if x70_2>0 then ((Q8.f k2 (Qb3 t576 x70_2) t571).bind fun t592=>(if t592=true then (none) else (laws_FnArrayOrbits.l0 k2 l1 t571 t574 t576 t576 (t576.length:Int) (wrap64 (x70_2+1)) t568))) else (laws_FnArrayOrbits.l0 k2 l1 t571 t574 t576 t576 (t576.length:Int) (wrap64 (x70_2+1)) t568))=some r:=by rw [if_pos rfl] at H;exact H
                 clear H;have H:=H1;clear H1
                 by_cases c36:x70_2>0
                 ·
                  rw [if_pos c36] at H;have c36b0:decide (0<x70_2)=true:=decide_eq_true c36;clear c36;replace H:=Option.bind_eq_some_iff.mp H;obtain ⟨t592,A370,H⟩:=H;replace H:(if t592=true then (none) else (laws_FnArrayOrbits.l0 k2 l1 t571 t574 t576 t576 (t576.length:Int) (wrap64 (x70_2+1)) t568))=some r:=H;have A37:=Aside0.mk A370;clear A370
                  by_cases c38:t592=true
                  ·
                   subst c38;have H1:(none)=some r:=by rw [if_pos rfl] at H;exact H
                   clear H;have H:=H1;clear H1;exact absurd H (by simp)
                  ·
                   replace c38:=Bool.eq_false_iff.mpr c38;subst c38;have H1:(laws_FnArrayOrbits.l0 k2 l1 t571 t574 t576 t576 (t576.length:Int) (wrap64 (x70_2+1)) t568)=some r:=by rw [if_neg (show ¬ (false=true) by decide)] at H;exact H
                   clear H;have H:=H1;clear H1;have H':=Aside0.mk H;clear H;have p585:0≤(x70_2:Int):=of_decide_eq_true (by first|(with_reducible assumption)|assumption);have q585:x70_2<(t576.length:Int):=of_decide_eq_true (by first|(with_reducible assumption)|assumption);obtain ⟨ad585,A585_0,c585_0,e585,hx585_0,hl585_0,hi585_0⟩:=Qev (Kd.N_reads' HO_68.out).2.2 x70_2 p585 q585;cases e585;obtain ⟨ce585,hce585,hMe585,hcc585⟩:=Kd.N_get HO_68.out [] x70_2 p585 (by first|exact q585|exact of_decide_eq_true (by first|(with_reducible assumption)|assumption)|(have e_:=(Kd.N_reads' HO_68.out).1;omega));obtain ⟨ua585_0,uc585_0,rfl,ul585_0,ge585_0⟩:=Kd.FK_slice_open hMe585;have hv585_0:=hcc585 0 _ rfl;rw [Nat.add_zero,show ((Kd.slice 3 (Kd.int .i64))).sz=1 from rfl,Nat.mul_one] at hv585_0;replace hv585_0:=Option.some.inj (hv585_0.symm.trans hx585_0);injection hv585_0 with hva_ hvn_ hvc_
                   rw [hva_] at ge585_0;rw [hvc_] at ul585_0;have HL585_0:=Aside0.mk (show Kd.V (Kd.int .i64) 3 _ w.heap.size _ _ (Qb3 t576 x70_2) from Kd.V_mk ul585_0 ge585_0);clear hva_ hvn_ hvc_ ge585_0 ul585_0;clear hcc585 hce585;have HR585_0:=Aside0.mk hi585_0;have HC585_0:=Aside0.mk hl585_0;clear hi585_0 hl585_0;replace p585:=eq_true p585;replace q585:=eq_true q585;have hcz39_0:wr.cell? ⟨gb575,0,none⟩=some (.slice Ao11 t568.length co11):=(Qx BK575.out 0).trans rfl;have hfz39_0:=Qp BK575.out 0;go_wp2_with (first|((with_reducible refine Qk (f:=11) rfl ?_);refine Q6 (some 79) rfl rfl Try.func11 (by kernel_rfl) rfl #[.agg #[.slice Ao11 t568.length co11], .slice A585_0 (Qb3 t576 x70_2).length c585_0, .int .i64 t574] rfl (by (try simp only [List.map_toArray,List.map_cons,List.map_nil]);first|done|rfl|(simp only [List.length_drop,List.length_take];rfl)) ?_;(with_reducible refine (Qcf.calls k2 _ _ t568 _ _ (Qb3 t576 x70_2) t574 t586 true _ ?side1 ?side2 ?side3 ?side4 A28.out).mono ?_);(case side1=>repeat (first|exact (Kd.R_reads' HO_576000.out).2.2|(with_reducible refine Kd.C_alloc ?_ _)|(with_reducible refine Kd.C_drewN ?_ _)|(with_reducible refine Kd.C_drew ?_)));(case side2=>exact (Kd.R_reads' HO_576000.out).2.1);(case side3=>repeat (first|exact (by repeat (first|(with_reducible exact HR585_0.out)|(with_reducible refine Kd.C_alloc ?_ _)|(with_reducible refine Kd.C_drewN ?_ _)|(with_reducible refine Kd.C_drew ?_)|exact HR585_0.out))|(with_reducible refine Kd.C_alloc ?_ _)|(with_reducible refine Kd.C_drewN ?_ _)|(with_reducible refine Kd.C_drew ?_)));(case side4=>exact HC585_0.out);rintro e w40 ⟨v587,rfl,ho0,hb⟩;refine ⟨_,rfl,?_⟩;replace HO_8:=Aside0.mk (Kd.N_elder' (by (with_reducible repeat (first|apply Kd.N_alloc|apply Kd.N_drewN|apply Kd.N_drew));exact HO_8.out) (Kd.R_base ho0) hb);replace HO_68:=Aside0.mk (Kd.N_elder' (by (with_reducible repeat (first|apply Kd.N_alloc|apply Kd.N_drewN|apply Kd.N_drew));exact HO_68.out) (Kd.R_base ho0) hb);replace HL585_0:=Aside0.mk (Kd.V_elder' (by (with_reducible repeat (first|apply Kd.V_alloc|apply Kd.V_drewN|apply Kd.V_drew));exact HL585_0.out) (Kd.R_base ho0) hb);have HO588:=Aside0.mk (Kd.R_lower (Kd.R_new' (Kd.R_new' ho0 (Kd.R_lt (by (with_reducible repeat (first|apply Kd.R_alloc|apply Kd.R_drewN|apply Kd.R_drew));exact HO_6.out))) (Kd.R_lt (by (with_reducible repeat (first|apply Kd.R_alloc|apply Kd.R_drewN|apply Kd.R_drew));exact HO_576000.out))) (Qq (by repeat (first|(with_reducible first|exact HB.out|apply Qc|apply Qa|apply Qd|refine Qe ?_ GE575.out)|exact HB.out))));replace HO_6:=Aside0.mk (Kd.R_elder' (by (with_reducible repeat (first|apply Kd.R_alloc|apply Kd.R_drewN|apply Kd.R_drew));exact HO_6.out) (Kd.R_base ho0) hb);replace HO_576000:=Aside0.mk (Kd.R_elder' (by (with_reducible repeat (first|apply Kd.R_alloc|apply Kd.R_drewN|apply Kd.R_drew));exact HO_576000.out) (Kd.R_base ho0) hb);replace BK575:=Aside0.mk (Qu (g:=gb575) (o:= .cells #[.slice Ao11 t568.length co11] 26 (0,0)) (by (with_reducible repeat (first|refine Qg ?_ _|refine Qh ?_|refine Qf ?_ _));exact BK575.out) hb);replace HR585_0:=Aside0.mk (Kd.C_below (by repeat (first|(with_reducible exact HR585_0.out)|(with_reducible refine Kd.C_alloc ?_ _)|(with_reducible refine Kd.C_drewN ?_ _)|(with_reducible refine Kd.C_drew ?_)|exact HR585_0.out)) hb);replace HB:=Aside0.mk (Qj (by repeat (first|(with_reducible first|exact HB.out|apply Qc|apply Qa|apply Qd|refine Qe ?_ GE575.out)|exact HB.out)) hb);(try clear hb);(try clear hb2);(try clear hk);(try clear hi);(try clear ho0);have p590:0≤((ji31):Int):=of_decide_eq_true (by first|(with_reducible assumption)|assumption);have q590:(ji31)<(t576.length:Int):=of_decide_eq_true (by first|(with_reducible assumption)|assumption);obtain ⟨ad590,A590_0,c590_0,e590,hx590_0,hl590_0,hi590_0⟩:=Qev (Kd.N_reads' HO_8.out).2.2 (ji31) p590 q590;obtain rfl:ad585=ad590:=(by injection e590);obtain ⟨ce590,hce590,hMe590,hcc590⟩:=Kd.N_get HO_8.out [] (ji31) p590 (by first|exact q590|exact of_decide_eq_true (by first|(with_reducible assumption)|assumption)|(have e_:=(Kd.N_reads' HO_8.out).1;omega));obtain ⟨ua590_0,uc590_0,rfl,ul590_0,ge590_0⟩:=Kd.FK_slice_open hMe590;have hv590_0:=hcc590 0 _ rfl;rw [Nat.add_zero,show ((Kd.slice 3 (Kd.int .i64))).sz=1 from rfl,Nat.mul_one] at hv590_0;replace hv590_0:=Option.some.inj (hv590_0.symm.trans hx590_0);injection hv590_0 with hva_ hvn_ hvc_;rw [hva_] at ge590_0;rw [hvc_] at ul590_0;have HL590_0:=Aside0.mk (show Kd.V (Kd.int .i64) 3 _ w.heap.size _ _ (Qb3 t576 (ji31)) from Kd.V_mk ul590_0 ge590_0);clear hva_ hvn_ hvc_ ge590_0 ul590_0;clear hcc590 hce590;have HR590_0:=Aside0.mk hi590_0;have HC590_0:=Aside0.mk hl590_0;clear hi590_0 hl590_0;replace p590:=eq_true p590;replace q590:=eq_true q590;obtain ⟨Ao41,co41,eo41⟩:=Kd.R_slice HO588.out;subst eo41)|(go_at_call 12;(with_reducible refine (Q8.calls k2 _ _ t586 _ _ (Qb3 t576 (ji31)) true _ ?side1 ?side2 ?side3 ?side4 A34.out).mono ?_);(case side1=>repeat (first|exact (Kd.R_reads' HO588.out).2.2|(with_reducible refine Kd.C_alloc ?_ _)|(with_reducible refine Kd.C_drewN ?_ _)|(with_reducible refine Kd.C_drew ?_)));(case side2=>exact (Kd.R_reads' HO588.out).2.1);(case side3=>repeat (first|exact (by repeat (first|(with_reducible exact HR590_0.out)|(with_reducible refine Kd.C_alloc ?_ _)|(with_reducible refine Kd.C_drewN ?_ _)|(with_reducible refine Kd.C_drew ?_)|exact HR590_0.out))|(with_reducible refine Kd.C_alloc ?_ _)|(with_reducible refine Kd.C_drewN ?_ _)|(with_reducible refine Kd.C_drew ?_)));(case side4=>exact HC590_0.out);rintro e w' ⟨rfl,⟨nd,rfl⟩⟩)|(go_at_call 12;(with_reducible refine (Q8.calls k2 _ _ (Qb3 t576 x70_2) _ _ t571 false _ ?side1 ?side2 ?side3 ?side4 A37.out).mono ?_);(case side1=>repeat (first|exact (by repeat (first|(with_reducible exact HR585_0.out)|(with_reducible refine Kd.C_alloc ?_ _)|(with_reducible refine Kd.C_drewN ?_ _)|(with_reducible refine Kd.C_drew ?_)|exact HR585_0.out))|(with_reducible refine Kd.C_alloc ?_ _)|(with_reducible refine Kd.C_drewN ?_ _)|(with_reducible refine Kd.C_drew ?_)));(case side2=>exact HC585_0.out);(case side3=>repeat (first|exact (Kd.R_reads' HO_6.out).2.2|(with_reducible refine Kd.C_alloc ?_ _)|(with_reducible refine Kd.C_drewN ?_ _)|(with_reducible refine Kd.C_drew ?_)));(case side4=>exact (Kd.R_reads' HO_6.out).2.1);rintro e w' ⟨rfl,⟨nd,rfl⟩⟩))
                   go_roundg k2
                   case measure=>have:=HJ7.out;have:=HK2.out;omega
                   case rel=>exact ⟨(wrap64 (x70_2+1)),(by first|rfl|(simp;done)|(simp [*];done)),H',⟨by have:=HJ7.out;have:=HK2.out;omega⟩,⟨by (with_reducible repeat (first|apply Kd.R_alloc|apply Kd.R_drewN|apply Kd.R_drew));exact Kd.R_mono HO_6.out (fun _ hk=>hk.1)⟩,⟨by (with_reducible repeat (first|apply Kd.N_alloc|apply Kd.N_drewN|apply Kd.N_drew));exact Kd.N_mono HO_8.out (fun _ hk=>⟨hk.1.1,⟨hk.1.2.1,hk.1.2.2⟩⟩)⟩,⟨by (with_reducible repeat (first|apply Kd.N_alloc|apply Kd.N_drewN|apply Kd.N_drew));exact Kd.N_mono HO_68.out (fun _ hk=>⟨hk.1.1,⟨hk.1.2.1,hk.1.2.2⟩⟩)⟩,⟨by (with_reducible repeat (first|apply Kd.R_alloc|apply Kd.R_drewN|apply Kd.R_drew));exact Kd.R_mono HO_576000.out (fun _ hk=>hk.1)⟩,⟨by (with_reducible repeat (first|refine Qg ?_ _|refine Qh ?_|refine Qf ?_ _));exact BK575.out⟩,⟨by repeat (first|(with_reducible first|exact HB.out|apply Qc|apply Qa|apply Qd|refine Qe ?_ GE575.out)|exact HB.out)⟩⟩
                 ·
                  rw [if_neg c36] at H;have c36b0:decide (0<x70_2)=false:=decide_eq_false c36;clear c36;have H':=Aside0.mk H;clear H;have p585:0≤(x70_2:Int):=of_decide_eq_true (by first|(with_reducible assumption)|assumption);have q585:x70_2<(t576.length:Int):=of_decide_eq_true (by first|(with_reducible assumption)|assumption);obtain ⟨ad585,A585_0,c585_0,e585,hx585_0,hl585_0,hi585_0⟩:=Qev (Kd.N_reads' HO_68.out).2.2 x70_2 p585 q585;cases e585;obtain ⟨ce585,hce585,hMe585,hcc585⟩:=Kd.N_get HO_68.out [] x70_2 p585 (by first|exact q585|exact of_decide_eq_true (by first|(with_reducible assumption)|assumption)|(have e_:=(Kd.N_reads' HO_68.out).1;omega));obtain ⟨ua585_0,uc585_0,rfl,ul585_0,ge585_0⟩:=Kd.FK_slice_open hMe585;have hv585_0:=hcc585 0 _ rfl;rw [Nat.add_zero,show ((Kd.slice 3 (Kd.int .i64))).sz=1 from rfl,Nat.mul_one] at hv585_0;replace hv585_0:=Option.some.inj (hv585_0.symm.trans hx585_0);injection hv585_0 with hva_ hvn_ hvc_
                  rw [hva_] at ge585_0;rw [hvc_] at ul585_0;have HL585_0:=Aside0.mk (show Kd.V (Kd.int .i64) 3 _ w.heap.size _ _ (Qb3 t576 x70_2) from Kd.V_mk ul585_0 ge585_0);clear hva_ hvn_ hvc_ ge585_0 ul585_0;clear hcc585 hce585;have HR585_0:=Aside0.mk hi585_0;have HC585_0:=Aside0.mk hl585_0;clear hi585_0 hl585_0;replace p585:=eq_true p585;replace q585:=eq_true q585;have hcz42_0:wr.cell? ⟨gb575,0,none⟩=some (.slice Ao11 t568.length co11):=(Qx BK575.out 0).trans rfl;have hfz42_0:=Qp BK575.out 0;go_wp2_with (first|((with_reducible refine Qk (f:=11) rfl ?_);refine Q6 (some 79) rfl rfl Try.func11 (by kernel_rfl) rfl #[.agg #[.slice Ao11 t568.length co11], .slice A585_0 (Qb3 t576 x70_2).length c585_0, .int .i64 t574] rfl (by (try simp only [List.map_toArray,List.map_cons,List.map_nil]);first|done|rfl|(simp only [List.length_drop,List.length_take];rfl)) ?_;(with_reducible refine (Qcf.calls k2 _ _ t568 _ _ (Qb3 t576 x70_2) t574 t586 true _ ?side1 ?side2 ?side3 ?side4 A28.out).mono ?_);(case side1=>repeat (first|exact (Kd.R_reads' HO_576000.out).2.2|(with_reducible refine Kd.C_alloc ?_ _)|(with_reducible refine Kd.C_drewN ?_ _)|(with_reducible refine Kd.C_drew ?_)));(case side2=>exact (Kd.R_reads' HO_576000.out).2.1);(case side3=>repeat (first|exact (by repeat (first|(with_reducible exact HR585_0.out)|(with_reducible refine Kd.C_alloc ?_ _)|(with_reducible refine Kd.C_drewN ?_ _)|(with_reducible refine Kd.C_drew ?_)|exact HR585_0.out))|(with_reducible refine Kd.C_alloc ?_ _)|(with_reducible refine Kd.C_drewN ?_ _)|(with_reducible refine Kd.C_drew ?_)));(case side4=>exact HC585_0.out);rintro e w43 ⟨v587,rfl,ho0,hb⟩;refine ⟨_,rfl,?_⟩;replace HO_8:=Aside0.mk (Kd.N_elder' (by (with_reducible repeat (first|apply Kd.N_alloc|apply Kd.N_drewN|apply Kd.N_drew));exact HO_8.out) (Kd.R_base ho0) hb);replace HO_68:=Aside0.mk (Kd.N_elder' (by (with_reducible repeat (first|apply Kd.N_alloc|apply Kd.N_drewN|apply Kd.N_drew));exact HO_68.out) (Kd.R_base ho0) hb);replace HL585_0:=Aside0.mk (Kd.V_elder' (by (with_reducible repeat (first|apply Kd.V_alloc|apply Kd.V_drewN|apply Kd.V_drew));exact HL585_0.out) (Kd.R_base ho0) hb);have HO588:=Aside0.mk (Kd.R_lower (Kd.R_new' (Kd.R_new' ho0 (Kd.R_lt (by (with_reducible repeat (first|apply Kd.R_alloc|apply Kd.R_drewN|apply Kd.R_drew));exact HO_6.out))) (Kd.R_lt (by (with_reducible repeat (first|apply Kd.R_alloc|apply Kd.R_drewN|apply Kd.R_drew));exact HO_576000.out))) (Qq (by repeat (first|(with_reducible first|exact HB.out|apply Qc|apply Qa|apply Qd|refine Qe ?_ GE575.out)|exact HB.out))));replace HO_6:=Aside0.mk (Kd.R_elder' (by (with_reducible repeat (first|apply Kd.R_alloc|apply Kd.R_drewN|apply Kd.R_drew));exact HO_6.out) (Kd.R_base ho0) hb);replace HO_576000:=Aside0.mk (Kd.R_elder' (by (with_reducible repeat (first|apply Kd.R_alloc|apply Kd.R_drewN|apply Kd.R_drew));exact HO_576000.out) (Kd.R_base ho0) hb);replace BK575:=Aside0.mk (Qu (g:=gb575) (o:= .cells #[.slice Ao11 t568.length co11] 26 (0,0)) (by (with_reducible repeat (first|refine Qg ?_ _|refine Qh ?_|refine Qf ?_ _));exact BK575.out) hb);replace HR585_0:=Aside0.mk (Kd.C_below (by repeat (first|(with_reducible exact HR585_0.out)|(with_reducible refine Kd.C_alloc ?_ _)|(with_reducible refine Kd.C_drewN ?_ _)|(with_reducible refine Kd.C_drew ?_)|exact HR585_0.out)) hb);replace HB:=Aside0.mk (Qj (by repeat (first|(with_reducible first|exact HB.out|apply Qc|apply Qa|apply Qd|refine Qe ?_ GE575.out)|exact HB.out)) hb);(try clear hb);(try clear hb2);(try clear hk);(try clear hi);(try clear ho0);have p590:0≤((ji31):Int):=of_decide_eq_true (by first|(with_reducible assumption)|assumption);have q590:(ji31)<(t576.length:Int):=of_decide_eq_true (by first|(with_reducible assumption)|assumption);obtain ⟨ad590,A590_0,c590_0,e590,hx590_0,hl590_0,hi590_0⟩:=Qev (Kd.N_reads' HO_8.out).2.2 (ji31) p590 q590;obtain rfl:ad585=ad590:=(by injection e590);obtain ⟨ce590,hce590,hMe590,hcc590⟩:=Kd.N_get HO_8.out [] (ji31) p590 (by first|exact q590|exact of_decide_eq_true (by first|(with_reducible assumption)|assumption)|(have e_:=(Kd.N_reads' HO_8.out).1;omega));obtain ⟨ua590_0,uc590_0,rfl,ul590_0,ge590_0⟩:=Kd.FK_slice_open hMe590;have hv590_0:=hcc590 0 _ rfl;rw [Nat.add_zero,show ((Kd.slice 3 (Kd.int .i64))).sz=1 from rfl,Nat.mul_one] at hv590_0;replace hv590_0:=Option.some.inj (hv590_0.symm.trans hx590_0);injection hv590_0 with hva_ hvn_ hvc_;rw [hva_] at ge590_0;rw [hvc_] at ul590_0;have HL590_0:=Aside0.mk (show Kd.V (Kd.int .i64) 3 _ w.heap.size _ _ (Qb3 t576 (ji31)) from Kd.V_mk ul590_0 ge590_0);clear hva_ hvn_ hvc_ ge590_0 ul590_0;clear hcc590 hce590;have HR590_0:=Aside0.mk hi590_0;have HC590_0:=Aside0.mk hl590_0;clear hi590_0 hl590_0;replace p590:=eq_true p590;replace q590:=eq_true q590;obtain ⟨Ao44,co44,eo44⟩:=Kd.R_slice HO588.out;subst eo44)|(go_at_call 12;(with_reducible refine (Q8.calls k2 _ _ t586 _ _ (Qb3 t576 (ji31)) true _ ?side1 ?side2 ?side3 ?side4 A34.out).mono ?_);(case side1=>repeat (first|exact (Kd.R_reads' HO588.out).2.2|(with_reducible refine Kd.C_alloc ?_ _)|(with_reducible refine Kd.C_drewN ?_ _)|(with_reducible refine Kd.C_drew ?_)));(case side2=>exact (Kd.R_reads' HO588.out).2.1);(case side3=>repeat (first|exact (by repeat (first|(with_reducible exact HR590_0.out)|(with_reducible refine Kd.C_alloc ?_ _)|(with_reducible refine Kd.C_drewN ?_ _)|(with_reducible refine Kd.C_drew ?_)|exact HR590_0.out))|(with_reducible refine Kd.C_alloc ?_ _)|(with_reducible refine Kd.C_drewN ?_ _)|(with_reducible refine Kd.C_drew ?_)));(case side4=>exact HC590_0.out);rintro e w' ⟨rfl,⟨nd,rfl⟩⟩))
                  go_roundg k2
                  case measure=>have:=HJ7.out;have:=HK2.out;omega
                  case rel=>exact ⟨(wrap64 (x70_2+1)),(by first|rfl|(simp;done)|(simp [*];done)),H',⟨by have:=HJ7.out;have:=HK2.out;omega⟩,⟨by (with_reducible repeat (first|apply Kd.R_alloc|apply Kd.R_drewN|apply Kd.R_drew));exact Kd.R_mono HO_6.out (fun _ hk=>hk.1)⟩,⟨by (with_reducible repeat (first|apply Kd.N_alloc|apply Kd.N_drewN|apply Kd.N_drew));exact Kd.N_mono HO_8.out (fun _ hk=>⟨hk.1.1,⟨hk.1.2.1,hk.1.2.2⟩⟩)⟩,⟨by (with_reducible repeat (first|apply Kd.N_alloc|apply Kd.N_drewN|apply Kd.N_drew));exact Kd.N_mono HO_68.out (fun _ hk=>⟨hk.1.1,⟨hk.1.2.1,hk.1.2.2⟩⟩)⟩,⟨by (with_reducible repeat (first|apply Kd.R_alloc|apply Kd.R_drewN|apply Kd.R_drew));exact Kd.R_mono HO_576000.out (fun _ hk=>hk.1)⟩,⟨by (with_reducible repeat (first|refine Qg ?_ _|refine Qh ?_|refine Qf ?_ _));exact BK575.out⟩,⟨by repeat (first|(with_reducible first|exact HB.out|apply Qc|apply Qa|apply Qd|refine Qe ?_ GE575.out)|exact HB.out)⟩⟩
                ·
                 replace c35:=Bool.eq_false_iff.mpr c35;subst c35;have H1:(none)=some r:=by rw [if_neg (show ¬ (false=true) by decide)] at H;exact H
                 clear H;have H:=H1;clear H1;exact absurd H (by simp)
               ·
                rw [if_neg c33] at H;exact absurd H (by simp)
              ·
               rw [if_neg c32] at H;exact absurd H (by simp)
            ·
             replace c29:=Bool.eq_false_iff.mpr c29;subst c29;have H1:(none)=some r:=by rw [if_neg (show ¬ (false=true) by decide)] at H;exact H
             clear H;have H:=H1;clear H1;exact absurd H (by simp)
           ·
            rw [if_neg c27] at H;exact absurd H (by simp)
          ·
           rw [if_neg c26] at H;exact absurd H (by simp)
         ·
          rw [if_neg c25] at H;have c25b0:decide (x70_2<(t576.length:Int))=false:=decide_eq_false c25;clear c25
          (first|rw [c25b0] |(simp only [Qcb,Qcj];rw [c25b0])|skip)
          have H':=Aside0.mk H;clear H;go_wp2
          go_meet
          case rel=>exact ⟨_,H',⟨by have:=HJ7.out;have:=HK2.out;first|omega|exact Nat.le_refl _⟩,⟨by (with_reducible repeat (first|apply Kd.R_alloc|apply Kd.R_drewN|apply Kd.R_drew));exact Kd.R_mono HO_576000.out (fun _ hk=>trivial)⟩,⟨by (with_reducible repeat (first|refine Qg ?_ _|refine Qh ?_|refine Qf ?_ _));exact BK575.out⟩,⟨by repeat (first|(with_reducible first|exact HB.out|apply Qc|apply Qa|apply Qd|refine Qe ?_ GE575.out)|exact HB.out)⟩⟩
      ·
       replace c23:=Bool.eq_false_iff.mpr c23;subst c23;have H1:(laws_FnArrayOrbits.j2 kj7 l1)=some r:=by rw [if_neg (show ¬ (false=true) by decide)] at H;exact H
       clear H;have H:=H1;clear H1;have H':=Aside0.mk H;clear H;go_wp2
       go_meet
       case rel=>exact ⟨_,H',⟨by have:=HJ7.out;first|omega|exact Nat.le_refl _⟩,⟨by (with_reducible repeat (first|apply Kd.R_alloc|apply Kd.R_drewN|apply Kd.R_drew));exact Kd.R_mono HO_576000.out (fun _ hk=>trivial)⟩,⟨by (with_reducible repeat (first|refine Qg ?_ _|refine Qh ?_|refine Qf ?_ _));exact BK575.out⟩,⟨by repeat (first|(with_reducible first|exact HB.out|apply Qc|apply Qa|apply Qd|refine Qe ?_ GE575.out)|exact HB.out)⟩⟩
     case rest=>
      clear HC22
      try clear c1
      try clear c2
      try clear p2
      try clear c3
      try clear c4
      try clear c5
      try clear p5
      try clear q5
      try clear hx5
      try clear c6
      try clear p6
      try clear c7
      try clear c8
      try clear c9
      try clear c11
      try clear c17
      try clear c17b0
      try clear c17b1
      try clear c17b2
      try clear c21
      try clear c23
      try clear c25
      try clear c25b0
      try clear c26
      try clear c26b0
      try clear c27
      try clear c27b0
      try clear c29
      try clear c30
      try clear c30b0
      try clear c30b1
      try clear c30b2
      try clear c32
      try clear c32b0
      try clear c33
      try clear c33b0
      try clear c35
      try clear c36
      try clear c36b0
      try clear c38
      try clear hcz12_0
      try clear hcz15_0
      try clear hcz39_0
      try clear hcz42_0
      try clear hfz12_0
      try clear hfz15_0
      try clear hfz39_0
      try clear hfz42_0
      try clear hx585_0
      try clear hx590_0
      try clear p2
      try clear p585
      try clear p590
      try clear q585
      try clear q590
      obtain ⟨kq,HA,HJ21,HO_576000,BK575,HB⟩:=hcut;cases kq with
      |zero=>exact absurd HA.out (by simp [laws_FnArrayOrbits.j2])
      |succ kj21=>
       have H:=HA.out;clear HA;simp only [laws_FnArrayOrbits.j2] at H;replace H:=Option.bind_eq_some_iff.mp H;obtain ⟨⟨t593,t596,t599⟩,A450,H⟩:=H;replace H:((Qby.f kj21 t593 t596 t599).bind fun bt601=>((Qbp.f kj21 t593 t596 t599).bind fun bt605=>(if (bt601.2 !=bt605.2)=true then (laws_FnArrayOrbits.j3 kj21 t596 t599 bt601.1 bt601.2 true t593) else ((Q8.f kj21 bt601.1 bt605.1).bind fun t609=>(laws_FnArrayOrbits.j3 kj21 t596 t599 bt601.1 bt601.2 (!t609) t593)))))=some r:=H;have A45:=Aside0.mk A450;clear A450;replace H:=Option.bind_eq_some_iff.mp H;obtain ⟨⟨t601,t604⟩,A460,H⟩:=H;replace H:((Qbp.f kj21 t593 t596 t599).bind fun bt605=>(if (t604 !=bt605.2)=true then (laws_FnArrayOrbits.j3 kj21 t596 t599 t601 t604 true t593) else ((Q8.f kj21 t601 bt605.1).bind fun t609=>(laws_FnArrayOrbits.j3 kj21 t596 t599 t601 t604 (!t609) t593))))=some r:=H;have A46:=Aside0.mk A460;clear A460;replace H:=Option.bind_eq_some_iff.mp H;obtain ⟨⟨t605,t608⟩,A470,H⟩:=H;replace H:(if (t604 !=t608)=true then (laws_FnArrayOrbits.j3 kj21 t596 t599 t601 t604 true t593) else ((Q8.f kj21 t601 t605).bind fun t609=>(laws_FnArrayOrbits.j3 kj21 t596 t599 t601 t604 (!t609) t593)))=some r:=H;have A47:=Aside0.mk A470;clear A470;have HC48:=Aside0.mk H;clear H;go_upto_region 19 with (first|((with_reducible refine Qk (f:=13) rfl ?_);refine Q6 (some 109) rfl rfl Try.func13 (by kernel_rfl) rfl #[.slice A1 l1.length c1] rfl (by (try simp only [List.map_toArray,List.map_cons,List.map_nil]);first|done|rfl|(simp only [List.length_drop,List.length_take];rfl)) ?_;(with_reducible refine (Qcd.calls kj21 _ _ l1 t593 t596 t599 _ ?side1 ?side2 A45.out).mono ?_);(case side1=>repeat (first|exact (Kd.C_below HR1.out HB.out)|(with_reducible refine Kd.C_alloc ?_ _)|(with_reducible refine Kd.C_drewN ?_ _)|(with_reducible refine Kd.C_drew ?_)));(case side2=>exact HC1.out);rintro e w49 ⟨v594,v597,rfl,ho0,ho1,hb⟩;refine ⟨_,rfl,?_⟩;have HO595:=Aside0.mk (Kd.R_lower (Kd.R_new' ho0 (Kd.R_lt (by (with_reducible repeat (first|apply Kd.R_alloc|apply Kd.R_drewN|apply Kd.R_drew));exact HO_576000.out))) (Qq (by repeat (first|(with_reducible first|exact HB.out|apply Qc|apply Qa|apply Qd|refine Qe ?_ GE575.out)|exact HB.out))));have HO598:=Aside0.mk (Kd.R_lower (Kd.R_new' ho1 (Kd.R_lt (by (with_reducible repeat (first|apply Kd.R_alloc|apply Kd.R_drewN|apply Kd.R_drew));exact HO_576000.out))) (Qq (by repeat (first|(with_reducible first|exact HB.out|apply Qc|apply Qa|apply Qd|refine Qe ?_ GE575.out)|exact HB.out))));replace HO_576000:=Aside0.mk (Kd.R_mono (Kd.R_told (Kd.R_told (Kd.R_old (by (with_reducible repeat (first|apply Kd.R_alloc|apply Kd.R_drewN|apply Kd.R_drew));exact HO_576000.out) hb) (Kd.R_base ho0)) (Kd.R_base ho1)) (fun _ h_=>h_.1));replace BK575:=Aside0.mk (Qu (g:=gb575) (o:= .cells #[.slice Ao11 t568.length co11] 26 (0,0)) (by (with_reducible repeat (first|refine Qg ?_ _|refine Qh ?_|refine Qf ?_ _));exact BK575.out) hb);replace HB:=Aside0.mk (Qj (by repeat (first|(with_reducible first|exact HB.out|apply Qc|apply Qa|apply Qd|refine Qe ?_ GE575.out)|exact HB.out)) hb);(try clear hb);(try clear hb2);(try clear hk);(try clear hi);(try clear ho0);(try clear ho1))|((with_reducible refine Qbb (N:=16) rfl ?_);(try (refine Qdr (by rfl) ?_;dsimp only));refine Qbg ?hg (N:=16) ?hd (cs:= #[.slice none 0 0]) (t:=26) ?hr ?_;(case hd=>rfl);(case hg=>rfl);(case hr=>first|(go_simp;done)|(go_simp;rfl));intro gb600 hg w50 hbox hb;replace HO_576000:=Aside0.mk (Kd.R_below (by (with_reducible repeat (first|apply Kd.R_alloc|apply Kd.R_drewN|apply Kd.R_drew));exact HO_576000.out) hb);replace HO595:=Aside0.mk (Kd.R_below (by (with_reducible repeat (first|apply Kd.R_alloc|apply Kd.R_drewN|apply Kd.R_drew));exact HO595.out) hb);replace HO598:=Aside0.mk (Kd.R_below (by (with_reducible repeat (first|apply Kd.R_alloc|apply Kd.R_drewN|apply Kd.R_drew));exact HO598.out) hb);have BK600:=Aside0.mk (hbox);have GW600:=Aside0.mk ((by rw [hg];exact (Qq (by repeat (first|(with_reducible first|exact HB.out|apply Qc|apply Qa|apply Qd|refine Qe ?_ GE575.out)|exact HB.out))):w.heap.size≤gb600));have GE600:=GW600;replace HB:=Aside0.mk (Qj (by repeat (first|(with_reducible first|exact HB.out|apply Qc|apply Qa|apply Qd|refine Qe ?_ GE575.out)|exact HB.out)) hb);have NB575_600:=Aside0.mk ((by rw [hg];exact Nat.ne_of_lt (Qcu (g:=gb575) (o:= .cells #[.slice Ao11 t568.length co11] 26 (0,0)) (by (with_reducible repeat (first|refine Qg ?_ _|refine Qh ?_|refine Qf ?_ _));exact BK575.out)):gb575≠gb600));have NB600_575:=Aside0.mk ((by rw [hg];exact Nat.ne_of_gt (Qcu (g:=gb575) (o:= .cells #[.slice Ao11 t568.length co11] 26 (0,0)) (by (with_reducible repeat (first|refine Qg ?_ _|refine Qh ?_|refine Qf ?_ _));exact BK575.out)):gb600≠gb575));replace BK575:=Aside0.mk (Qu (g:=gb575) (o:= .cells #[.slice Ao11 t568.length co11] 26 (0,0)) (by (with_reducible repeat (first|refine Qg ?_ _|refine Qh ?_|refine Qf ?_ _));exact BK575.out) hb);clear hb hbox hg;obtain ⟨Ao51,co51,eo51⟩:=Kd.R_slice HO595.out;subst eo51;have hnb52:=NB600_575.out;have hnc52:=NB575_600.out;have hcz53_0:w50.cell? ⟨gb600,0,none⟩=some (.slice none 0 0):=(Qx BK600.out 0).trans rfl;have hfz53_0:=Qp BK600.out 0;obtain ⟨Ao54,co54,eo54⟩:=Kd.R_slice HO598.out;subst eo54)|((with_reducible refine Qk (f:=14) rfl ?_);refine Q6 (some 117) rfl rfl Try.func14 (by kernel_rfl) rfl #[.agg #[.slice Ao51 t593.length co51], .slice Ao54 t596.length co54, .int .i64 t599] rfl (by (try simp only [List.map_toArray,List.map_cons,List.map_nil]);first|done|rfl|(simp only [List.length_drop,List.length_take];rfl)) ?_;(with_reducible refine (Qby.calls kj21 _ _ t593 _ _ t596 t599 t601 t604 _ ?side1 ?side2 ?side3 ?side4 A46.out).mono ?_);(case side1=>refine (Kd.R_reads' (e:=3) (base:=w.heap.size) (ok:=fun k_=>(some k_≠(.slice Ao54 t596.length co54:Value).ownBlock∧some k_≠(.slice Ao11 t568.length co11:Value).ownBlock)) (n:=t593.length) (c:=co51) ?_).2.2;exact (by (with_reducible repeat (first|apply Kd.R_alloc|apply Kd.R_drewN|apply Kd.R_drew));exact (Kd.R_mono (Kd.R_far (p:=⟨gb600,0,none⟩) (Kd.R_types HO595.out BK600.out (by decide)) (fun _ hk=>hk.2) (.slice Ao51 t593.length co51)) (fun _ h_=>h_.1))));(case side2=>exact (Kd.R_reads' HO595.out).2.1);(case side3=>refine (Kd.R_reads' (e:=3) (base:=w.heap.size) (ok:=fun k_=>(some k_≠(.slice Ao51 t593.length co51:Value).ownBlock∧some k_≠(.slice Ao11 t568.length co11:Value).ownBlock)) (n:=t596.length) (c:=co54) ?_).2.2;exact (by (with_reducible repeat (first|apply Kd.R_alloc|apply Kd.R_drewN|apply Kd.R_drew));exact (Kd.R_mono (Kd.R_far (p:=⟨gb600,0,none⟩) (Kd.R_types HO598.out BK600.out (by decide)) (fun _ hk=>hk.2) (.slice Ao51 t593.length co51)) (fun _ h_=>h_.1))));(case side4=>exact (Kd.R_reads' HO598.out).2.1);rintro e w55 ⟨v602,rfl,ho0,hb⟩;refine ⟨_,rfl,?_⟩;have HO603:=Aside0.mk (Kd.R_lower (Kd.R_new' (Kd.R_new' (Kd.R_new' ho0 (Kd.R_lt (by (with_reducible repeat (first|apply Kd.R_alloc|apply Kd.R_drewN|apply Kd.R_drew));exact (Kd.R_mono (Kd.R_far (p:=⟨gb600,0,none⟩) (Kd.R_types HO_576000.out BK600.out (by decide)) (fun _ hk=>hk.2) (.slice Ao51 t593.length co51)) (fun _ h_=>h_.1))))) (Kd.R_lt (by (with_reducible repeat (first|apply Kd.R_alloc|apply Kd.R_drewN|apply Kd.R_drew));exact (Kd.R_mono (Kd.R_far (p:=⟨gb600,0,none⟩) (Kd.R_types HO595.out BK600.out (by decide)) (fun _ hk=>hk.2) (.slice Ao51 t593.length co51)) (fun _ h_=>h_.1))))) (Kd.R_lt (by (with_reducible repeat (first|apply Kd.R_alloc|apply Kd.R_drewN|apply Kd.R_drew));exact (Kd.R_mono (Kd.R_far (p:=⟨gb600,0,none⟩) (Kd.R_types HO598.out BK600.out (by decide)) (fun _ hk=>hk.2) (.slice Ao51 t593.length co51)) (fun _ h_=>h_.1))))) (Qq (by repeat (first|(with_reducible first|exact HB.out|apply Qc|apply Qa|apply Qd|refine Qe ?_ GE575.out|refine Qe ?_ GE600.out)|exact HB.out))));replace HO_576000:=Aside0.mk (Kd.R_elder' (by (with_reducible repeat (first|apply Kd.R_alloc|apply Kd.R_drewN|apply Kd.R_drew));exact (Kd.R_mono (Kd.R_far (p:=⟨gb600,0,none⟩) (Kd.R_types HO_576000.out BK600.out (by decide)) (fun _ hk=>hk.2) (.slice Ao51 t593.length co51)) (fun _ h_=>h_.1))) (Kd.R_base ho0) hb);replace HO595:=Aside0.mk (Kd.R_elder' (by (with_reducible repeat (first|apply Kd.R_alloc|apply Kd.R_drewN|apply Kd.R_drew));exact (Kd.R_mono (Kd.R_far (p:=⟨gb600,0,none⟩) (Kd.R_types HO595.out BK600.out (by decide)) (fun _ hk=>hk.2) (.slice Ao51 t593.length co51)) (fun _ h_=>h_.1))) (Kd.R_base ho0) hb);replace HO598:=Aside0.mk (Kd.R_elder' (by (with_reducible repeat (first|apply Kd.R_alloc|apply Kd.R_drewN|apply Kd.R_drew));exact (Kd.R_mono (Kd.R_far (p:=⟨gb600,0,none⟩) (Kd.R_types HO598.out BK600.out (by decide)) (fun _ hk=>hk.2) (.slice Ao51 t593.length co51)) (fun _ h_=>h_.1))) (Kd.R_base ho0) hb);replace BK575:=Aside0.mk (Qu (g:=gb575) (o:= .cells #[.slice Ao11 t568.length co11] 26 (0,0)) (by (with_reducible repeat (first|refine Qg ?_ _|refine Qh ?_|refine Qf ?_ _));refine Qc6 ?_ NB575_600.out _;(with_reducible repeat (first|refine Qg ?_ _|refine Qh ?_|refine Qf ?_ _));exact BK575.out) hb);replace BK600:=Aside0.mk (Qu (g:=gb600) (o:= .cells #[.slice Ao51 t593.length co51] 26 (0,0)) (by (with_reducible repeat (first|refine Qg ?_ _|refine Qh ?_|refine Qf ?_ _));refine Qcn (cs:= #[.slice none 0 0]) ?_ 0 _ rfl;(with_reducible repeat (first|refine Qg ?_ _|refine Qh ?_|refine Qf ?_ _));exact BK600.out) hb);replace HB:=Aside0.mk (Qj (by repeat (first|(with_reducible first|exact HB.out|apply Qc|apply Qa|apply Qd|refine Qe ?_ GE575.out|refine Qe ?_ GE600.out)|exact HB.out)) hb);(try clear hb);(try clear hb2);(try clear hk);(try clear hi);(try clear ho0);have hcz56_0:w55.cell? ⟨gb600,0,none⟩=some (.slice Ao51 t593.length co51):=(Qx BK600.out 0).trans rfl;have hfz56_0:=Qp BK600.out 0)|((with_reducible refine Qk (f:=15) rfl ?_);refine Q6 (some 124) rfl rfl Try.func15 (by kernel_rfl) rfl #[.agg #[.slice Ao51 t593.length co51], .slice Ao54 t596.length co54, .int .i64 t599] rfl (by (try simp only [List.map_toArray,List.map_cons,List.map_nil]);first|done|rfl|(simp only [List.length_drop,List.length_take];rfl)) ?_;(with_reducible refine (Qbp.calls kj21 _ _ t593 _ _ t596 t599 t605 t608 _ ?side1 ?side2 ?side3 ?side4 A47.out).mono ?_);(case side1=>repeat (first|exact (Kd.R_reads' HO595.out).2.2|(with_reducible refine Kd.C_alloc ?_ _)|(with_reducible refine Kd.C_drewN ?_ _)|(with_reducible refine Kd.C_drew ?_)));(case side2=>exact (Kd.R_reads' HO595.out).2.1);(case side3=>repeat (first|exact (Kd.R_reads' HO598.out).2.2|(with_reducible refine Kd.C_alloc ?_ _)|(with_reducible refine Kd.C_drewN ?_ _)|(with_reducible refine Kd.C_drew ?_)));(case side4=>exact (Kd.R_reads' HO598.out).2.1);rintro e w57 ⟨v606,rfl,ho0,hb⟩;refine ⟨_,rfl,?_⟩;have HO607:=Aside0.mk (Kd.R_lower (Kd.R_new' (Kd.R_new' (Kd.R_new' (Kd.R_new' ho0 (Kd.R_lt (by (with_reducible repeat (first|apply Kd.R_alloc|apply Kd.R_drewN|apply Kd.R_drew));exact HO_576000.out))) (Kd.R_lt (by (with_reducible repeat (first|apply Kd.R_alloc|apply Kd.R_drewN|apply Kd.R_drew));exact HO595.out))) (Kd.R_lt (by (with_reducible repeat (first|apply Kd.R_alloc|apply Kd.R_drewN|apply Kd.R_drew));exact HO598.out))) (Kd.R_lt (by (with_reducible repeat (first|apply Kd.R_alloc|apply Kd.R_drewN|apply Kd.R_drew));exact HO603.out))) (Qq (by repeat (first|(with_reducible first|exact HB.out|apply Qc|apply Qa|apply Qd|refine Qe ?_ GE575.out|refine Qe ?_ GE600.out)|exact HB.out))));replace HO_576000:=Aside0.mk (Kd.R_elder' (by (with_reducible repeat (first|apply Kd.R_alloc|apply Kd.R_drewN|apply Kd.R_drew));exact HO_576000.out) (Kd.R_base ho0) hb);replace HO595:=Aside0.mk (Kd.R_elder' (by (with_reducible repeat (first|apply Kd.R_alloc|apply Kd.R_drewN|apply Kd.R_drew));exact HO595.out) (Kd.R_base ho0) hb);replace HO598:=Aside0.mk (Kd.R_elder' (by (with_reducible repeat (first|apply Kd.R_alloc|apply Kd.R_drewN|apply Kd.R_drew));exact HO598.out) (Kd.R_base ho0) hb);replace HO603:=Aside0.mk (Kd.R_elder' (by (with_reducible repeat (first|apply Kd.R_alloc|apply Kd.R_drewN|apply Kd.R_drew));exact HO603.out) (Kd.R_base ho0) hb);replace BK575:=Aside0.mk (Qu (g:=gb575) (o:= .cells #[.slice Ao11 t568.length co11] 26 (0,0)) (by (with_reducible repeat (first|refine Qg ?_ _|refine Qh ?_|refine Qf ?_ _));exact BK575.out) hb);replace BK600:=Aside0.mk (Qu (g:=gb600) (o:= .cells #[.slice Ao51 t593.length co51] 26 (0,0)) (by (with_reducible repeat (first|refine Qg ?_ _|refine Qh ?_|refine Qf ?_ _));exact BK600.out) hb);replace HB:=Aside0.mk (Qj (by repeat (first|(with_reducible first|exact HB.out|apply Qc|apply Qa|apply Qd|refine Qe ?_ GE575.out|refine Qe ?_ GE600.out)|exact HB.out)) hb);(try clear hb);(try clear hb2);(try clear hk);(try clear hi);(try clear ho0)))
       (try simp only [Act.put,List.setIfInBounds_toArray,List.set_cons_zero,List.set_cons_succ])
       go_cut [135] (fun v135 wc=> ∃ (kq:Nat) (x135_47:Bool),v135= .bool x135_47∧Aside0 (laws_FnArrayOrbits.j3 kq t596 t599 t601 t604 x135_47 t593=some r)∧Aside0 (kq≤kj21)∧Aside0 (Kd.R (Kd.int .i64) 3 wc w.heap.size (fun k_=>some k_≠(v602:Value).ownBlock∧some k_≠((.slice Ao11 t568.length co11):Value).ownBlock∧some k_≠((.slice Ao51 t593.length co51):Value).ownBlock) (.slice Ao54 t596.length co54) t596)∧Aside0 (Kd.R (Kd.int .i64) 3 wc w.heap.size (fun k_=>some k_≠((.slice Ao54 t596.length co54):Value).ownBlock∧some k_≠((.slice Ao11 t568.length co11):Value).ownBlock∧some k_≠((.slice Ao51 t593.length co51):Value).ownBlock) v602 t601)∧Aside0 (Kd.R (Kd.int .i64) 3 wc w.heap.size (fun k_=>some k_≠((.slice Ao54 t596.length co54):Value).ownBlock∧some k_≠(v602:Value).ownBlock∧some k_≠((.slice Ao51 t593.length co51):Value).ownBlock) (.slice Ao11 t568.length co11) t568)∧Aside0 (Kd.R (Kd.int .i64) 3 wc w.heap.size (fun k_=>some k_≠((.slice Ao54 t596.length co54):Value).ownBlock∧some k_≠(v602:Value).ownBlock∧some k_≠((.slice Ao11 t568.length co11):Value).ownBlock) (.slice Ao51 t593.length co51) t593)∧Aside0 (wc.heap[gb575]? =some (.cells #[(.slice Ao11 t568.length co11)] 26 (0,0)))∧Aside0 (wc.heap[gb600]? =some (.cells #[(.slice Ao51 t593.length co51)] 26 (0,0)))∧Aside0 (Below w.heap.size w wc))
       case first=>
        have H:=HC48.out;clear HC48
        by_cases c58:(t604 !=t608)=true
        ·
         rw [if_pos c58] at H;have c58b0:(t604 !=t608)=true:=c58
         (try (have c58b1:decide (t604=t608)=false:=by simpa using c58))
         (try (have c58b2:(t604==t608)=false:=by simpa using c58))
         (try (have c58b3: ¬ (t604=t608):=by simpa using c58))
         clear c58
         (first|rw [c58b0] |(simp only [Qcb,Qcj];rw [c58b0])|skip)
         have H':=Aside0.mk H;clear H;go_wp2
         go_meet
         case rel=>exact ⟨_,(true),(by first|rfl|(simp;done)|(simp [*];done)),H',⟨by have:=HJ7.out;have:=HJ21.out;first|omega|exact Nat.le_refl _⟩,⟨by (with_reducible repeat (first|apply Kd.R_alloc|apply Kd.R_drewN|apply Kd.R_drew));exact Kd.R_mono HO598.out (fun _ hk=>⟨hk.1.2,⟨hk.1.1.2,hk.1.1.1⟩⟩)⟩,⟨by (with_reducible repeat (first|apply Kd.R_alloc|apply Kd.R_drewN|apply Kd.R_drew));exact Kd.R_mono HO603.out (fun _ hk=>⟨hk.1.2,⟨hk.1.1.1.2,hk.1.1.2⟩⟩)⟩,⟨by (with_reducible repeat (first|apply Kd.R_alloc|apply Kd.R_drewN|apply Kd.R_drew));exact Kd.R_mono HO_576000.out (fun _ hk=>⟨hk.1.1.2,⟨hk.1.2,hk.1.1.1.2⟩⟩)⟩,⟨by (with_reducible repeat (first|apply Kd.R_alloc|apply Kd.R_drewN|apply Kd.R_drew));exact Kd.R_mono HO595.out (fun _ hk=>⟨hk.1.1.1,⟨hk.1.2,hk.1.1.2⟩⟩)⟩,⟨by (with_reducible repeat (first|refine Qg ?_ _|refine Qh ?_|refine Qf ?_ _));exact BK575.out⟩,⟨by (with_reducible repeat (first|refine Qg ?_ _|refine Qh ?_|refine Qf ?_ _));exact BK600.out⟩,⟨by repeat (first|(with_reducible first|exact HB.out|apply Qc|apply Qa|apply Qd|refine Qe ?_ GE575.out|refine Qe ?_ GE600.out)|exact HB.out)⟩⟩
        ·
         rw [if_neg c58] at H;have c58b0:(t604 !=t608)=false:=by simpa using c58
         (try (have c58b1:decide (t604=t608)=true:=by simpa using c58))
         (try (have c58b2:(t604==t608)=true:=by simpa using c58))
         clear c58
         (first|rw [c58b0] |(simp only [Qcb,Qcj];rw [c58b0])|skip)
         replace H:=Option.bind_eq_some_iff.mp H;obtain ⟨t609,A590,H⟩:=H;replace H:(laws_FnArrayOrbits.j3 kj21 t596 t599 t601 t604 (!t609) t593)=some r:=H;have A59:=Aside0.mk A590;clear A590;have H':=Aside0.mk H;clear H;obtain ⟨Ao60,co60,eo60⟩:=Kd.R_slice HO603.out;subst eo60;obtain ⟨Ao61,co61,eo61⟩:=Kd.R_slice HO607.out;subst eo61;go_wp2_with (first|(go_at_call 12;(with_reducible refine (Q8.calls kj21 _ _ t601 _ _ t605 t609 _ ?side1 ?side2 ?side3 ?side4 A59.out).mono ?_);(case side1=>repeat (first|exact (Kd.R_reads' HO603.out).2.2|(with_reducible refine Kd.C_alloc ?_ _)|(with_reducible refine Kd.C_drewN ?_ _)|(with_reducible refine Kd.C_drew ?_)));(case side2=>exact (Kd.R_reads' HO603.out).2.1);(case side3=>repeat (first|exact (Kd.R_reads' HO607.out).2.2|(with_reducible refine Kd.C_alloc ?_ _)|(with_reducible refine Kd.C_drewN ?_ _)|(with_reducible refine Kd.C_drew ?_)));(case side4=>exact (Kd.R_reads' HO607.out).2.1);rintro e w' ⟨rfl,⟨nd,rfl⟩⟩))
         go_meet
         case rel=>exact ⟨_,(!t609),(by first|rfl|(simp;done)|(simp [*];done)),H',⟨by have:=HJ7.out;have:=HJ21.out;first|omega|exact Nat.le_refl _⟩,⟨by (with_reducible repeat (first|apply Kd.R_alloc|apply Kd.R_drewN|apply Kd.R_drew));exact Kd.R_mono HO598.out (fun _ hk=>⟨hk.1.2,⟨hk.1.1.2,hk.1.1.1⟩⟩)⟩,⟨by (with_reducible repeat (first|apply Kd.R_alloc|apply Kd.R_drewN|apply Kd.R_drew));exact Kd.R_mono HO603.out (fun _ hk=>⟨hk.1.2,⟨hk.1.1.1.2,hk.1.1.2⟩⟩)⟩,⟨by (with_reducible repeat (first|apply Kd.R_alloc|apply Kd.R_drewN|apply Kd.R_drew));exact Kd.R_mono HO_576000.out (fun _ hk=>⟨hk.1.1.2,⟨hk.1.2,hk.1.1.1.2⟩⟩)⟩,⟨by (with_reducible repeat (first|apply Kd.R_alloc|apply Kd.R_drewN|apply Kd.R_drew));exact Kd.R_mono HO595.out (fun _ hk=>⟨hk.1.1.1,⟨hk.1.2,hk.1.1.2⟩⟩)⟩,⟨by (with_reducible repeat (first|refine Qg ?_ _|refine Qh ?_|refine Qf ?_ _));exact BK575.out⟩,⟨by (with_reducible repeat (first|refine Qg ?_ _|refine Qh ?_|refine Qf ?_ _));exact BK600.out⟩,⟨by repeat (first|(with_reducible first|exact HB.out|apply Qc|apply Qa|apply Qd|refine Qe ?_ GE575.out|refine Qe ?_ GE600.out)|exact HB.out)⟩⟩
       case rest=>
        clear HC48
        try clear c1
        try clear c2
        try clear p2
        try clear c3
        try clear c4
        try clear c5
        try clear p5
        try clear q5
        try clear hx5
        try clear c6
        try clear p6
        try clear c7
        try clear c8
        try clear c9
        try clear c11
        try clear c13
        try clear c14
        try clear c15
        try clear c17
        try clear c17b0
        try clear c17b1
        try clear c17b2
        try clear c21
        try clear c23
        try clear c25
        try clear c25b0
        try clear c26
        try clear c26b0
        try clear c27
        try clear c27b0
        try clear c29
        try clear c30
        try clear c30b0
        try clear c30b1
        try clear c30b2
        try clear c32
        try clear c32b0
        try clear c33
        try clear c33b0
        try clear c35
        try clear c36
        try clear c36b0
        try clear c38
        try clear c52
        try clear c58
        try clear c58b0
        try clear c58b1
        try clear c58b2
        try clear p58
        try clear q58
        try clear hx58
        try clear c59
        try clear p59
        try clear q59
        try clear hx59
        try clear hcz12_0
        try clear hcz15_0
        try clear hcz39_0
        try clear hcz42_0
        try clear hcz53_0
        try clear hcz56_0
        try clear hfz12_0
        try clear hfz15_0
        try clear hfz39_0
        try clear hfz42_0
        try clear hfz53_0
        try clear hfz56_0
        try clear hx585_0
        try clear hx590_0
        try clear p2
        try clear p5
        try clear p585
        try clear p590
        try clear p6
        try clear q5
        try clear q585
        try clear q590
        obtain ⟨kq,x135_47,rfl,HA,HJ47,HO_17,HO_19,HO_576000,HO_601000,BK575,BK600,HB⟩:=hcut;cases kq with
        |zero=>exact absurd HA.out (by simp [laws_FnArrayOrbits.j3])
        |succ kj47=>
         have H:=HA.out;clear HA;simp only [laws_FnArrayOrbits.j3] at H
         by_cases c62:x135_47=true
         ·
          subst c62;have H1:(none)=some r:=by rw [if_pos rfl] at H;exact H
          clear H;have H:=H1;clear H1;exact absurd H (by simp)
         ·
          replace c62:=Bool.eq_false_iff.mpr c62;subst c62;have H1:(if t604=true then ((Qcw.f kj47 t593).bind fun bt610=>((Qct.f kj47 bt610.1 t601 t599).bind fun bt615=>((Qby.f kj47 bt610.1 t601 t599).bind fun bt617=>((Qca.f kj47 t593 t596 t599).bind fun bt621=>((Qby.f kj47 t593 bt621.1 t599).bind fun bt625=>((Qcf.f kj47 bt610.1 t601 t599).bind fun bt629=>(if bt610.2=true then (if bt615.2=true then (if bt615.1=true then (if bt617.2=true then ((Q8.f kj47 bt617.1 t596).bind fun t633=>(if t633=true then (if bt621.2=true then (if bt625.2=true then (if bt629.2=true then ((Q8.f kj47 bt629.1 bt625.1).bind fun t634=>(some t634)) else (none)) else (none)) else (none)) else (none))) else (none)) else (none)) else (none)) else (none)))))))) else (some true))=some r:=by rw [if_neg (show ¬ (false=true) by decide)] at H;exact H
          clear H;have H:=H1;clear H1
          by_cases c63:t604=true
          ·
           subst c63;have H1:((Qcw.f kj47 t593).bind fun bt610=>((Qct.f kj47 bt610.1 t601 t599).bind fun bt615=>((Qby.f kj47 bt610.1 t601 t599).bind fun bt617=>((Qca.f kj47 t593 t596 t599).bind fun bt621=>((Qby.f kj47 t593 bt621.1 t599).bind fun bt625=>((Qcf.f kj47 bt610.1 t601 t599).bind fun bt629=>(if bt610.2=true then (if bt615.2=true then (if bt615.1=true then (if bt617.2=true then ((Q8.f kj47 bt617.1 t596).bind fun t633=>(if t633=true then (if bt621.2=true then (if bt625.2=true then (if bt629.2=true then ((Q8.f kj47 bt629.1 bt625.1).bind fun t634=>(some t634)) else (none)) else (none)) else (none)) else (none))) else (none)) else (none)) else (none)) else (none))))))))=some r:=by rw [if_pos rfl] at H;exact H
           clear H;have H:=H1;clear H1;replace H:=Option.bind_eq_some_iff.mp H;obtain ⟨⟨t610,t613⟩,A640,H⟩:=H;replace H:((Qct.f kj47 t610 t601 t599).bind fun bt615=>((Qby.f kj47 t610 t601 t599).bind fun bt617=>((Qca.f kj47 t593 t596 t599).bind fun bt621=>((Qby.f kj47 t593 bt621.1 t599).bind fun bt625=>((Qcf.f kj47 t610 t601 t599).bind fun bt629=>(if t613=true then (if bt615.2=true then (if bt615.1=true then (if bt617.2=true then ((Q8.f kj47 bt617.1 t596).bind fun t633=>(if t633=true then (if bt621.2=true then (if bt625.2=true then (if bt629.2=true then ((Q8.f kj47 bt629.1 bt625.1).bind fun t634=>(some t634)) else (none)) else (none)) else (none)) else (none))) else (none)) else (none)) else (none)) else (none)))))))=some r:=H;have A64:=Aside0.mk A640;clear A640;replace H:=Option.bind_eq_some_iff.mp H;obtain ⟨⟨t615,t616⟩,A650,H⟩:=H;replace H:((Qby.f kj47 t610 t601 t599).bind fun bt617=>((Qca.f kj47 t593 t596 t599).bind fun bt621=>((Qby.f kj47 t593 bt621.1 t599).bind fun bt625=>((Qcf.f kj47 t610 t601 t599).bind fun bt629=>(if t613=true then (if t616=true then (if t615=true then (if bt617.2=true then ((Q8.f kj47 bt617.1 t596).bind fun t633=>(if t633=true then (if bt621.2=true then (if bt625.2=true then (if bt629.2=true then ((Q8.f kj47 bt629.1 bt625.1).bind fun t634=>(some t634)) else (none)) else (none)) else (none)) else (none))) else (none)) else (none)) else (none)) else (none))))))=some r:=H;have A65:=Aside0.mk A650;clear A650;replace H:=Option.bind_eq_some_iff.mp H;obtain ⟨⟨t617,t620⟩,A660,H⟩:=H;replace H:((Qca.f kj47 t593 t596 t599).bind fun bt621=>((Qby.f kj47 t593 bt621.1 t599).bind fun bt625=>((Qcf.f kj47 t610 t601 t599).bind fun bt629=>(if t613=true then (if t616=true then (if t615=true then (if t620=true then ((Q8.f kj47 t617 t596).bind fun t633=>(if t633=true then (if bt621.2=true then (if bt625.2=true then (if bt629.2=true then ((Q8.f kj47 bt629.1 bt625.1).bind fun t634=>(some t634)) else (none)) else (none)) else (none)) else (none))) else (none)) else (none)) else (none)) else (none)))))=some r:=H;have A66:=Aside0.mk A660;clear A660;replace H:=Option.bind_eq_some_iff.mp H;obtain ⟨⟨t621,t624⟩,A670,H⟩:=H;replace H:((Qby.f kj47 t593 t621 t599).bind fun bt625=>((Qcf.f kj47 t610 t601 t599).bind fun bt629=>(if t613=true then (if t616=true then (if t615=true then (if t620=true then ((Q8.f kj47 t617 t596).bind fun t633=>(if t633=true then (if t624=true then (if bt625.2=true then (if bt629.2=true then ((Q8.f kj47 bt629.1 bt625.1).bind fun t634=>(some t634)) else (none)) else (none)) else (none)) else (none))) else (none)) else (none)) else (none)) else (none))))=some r:=H;have A67:=Aside0.mk A670;clear A670;replace H:=Option.bind_eq_some_iff.mp H;obtain ⟨⟨t625,t628⟩,A680,H⟩:=H;replace H:((Qcf.f kj47 t610 t601 t599).bind fun bt629=>(if t613=true then (if t616=true then (if t615=true then (if t620=true then ((Q8.f kj47 t617 t596).bind fun t633=>(if t633=true then (if t624=true then (if t628=true then (if bt629.2=true then ((Q8.f kj47 bt629.1 t625).bind fun t634=>(some t634)) else (none)) else (none)) else (none)) else (none))) else (none)) else (none)) else (none)) else (none)))=some r:=H;have A68:=Aside0.mk A680;clear A680;replace H:=Option.bind_eq_some_iff.mp H;obtain ⟨⟨t629,t632⟩,A690,H⟩:=H;replace H:(if t613=true then (if t616=true then (if t615=true then (if t620=true then ((Q8.f kj47 t617 t596).bind fun t633=>(if t633=true then (if t624=true then (if t628=true then (if t632=true then ((Q8.f kj47 t629 t625).bind fun t634=>(some t634)) else (none)) else (none)) else (none)) else (none))) else (none)) else (none)) else (none)) else (none))=some r:=H;have A69:=Aside0.mk A690;clear A690
           by_cases c70:t613=true
           ·
            subst c70;have H1:(if t616=true then (if t615=true then (if t620=true then ((Q8.f kj47 t617 t596).bind fun t633=>(if t633=true then (if t624=true then (if t628=true then (if t632=true then ((Q8.f kj47 t629 t625).bind fun t634=>(some t634)) else (none)) else (none)) else (none)) else (none))) else (none)) else (none)) else (none))=some r:=by rw [if_pos rfl] at H;exact H
            clear H;have H:=H1;clear H1
            by_cases c71:t616=true
            ·
             subst c71;have H1:(if t615=true then (if t620=true then ((Q8.f kj47 t617 t596).bind fun t633=>(if t633=true then (if t624=true then (if t628=true then (if t632=true then ((Q8.f kj47 t629 t625).bind fun t634=>(some t634)) else (none)) else (none)) else (none)) else (none))) else (none)) else (none))=some r:=by rw [if_pos rfl] at H;exact H
             clear H;have H:=H1;clear H1
             by_cases c72:t615=true
             ·
              subst c72;have H1:(if t620=true then ((Q8.f kj47 t617 t596).bind fun t633=>(if t633=true then (if t624=true then (if t628=true then (if t632=true then ((Q8.f kj47 t629 t625).bind fun t634=>(some t634)) else (none)) else (none)) else (none)) else (none))) else (none))=some r:=by rw [if_pos rfl] at H;exact H
              clear H;have H:=H1;clear H1
              by_cases c73:t620=true
              ·
               subst c73;have H1:((Q8.f kj47 t617 t596).bind fun t633=>(if t633=true then (if t624=true then (if t628=true then (if t632=true then ((Q8.f kj47 t629 t625).bind fun t634=>(some t634)) else (none)) else (none)) else (none)) else (none)))=some r:=by rw [if_pos rfl] at H;exact H
               clear H;have H:=H1;clear H1;replace H:=Option.bind_eq_some_iff.mp H;obtain ⟨t633,A740,H⟩:=H;replace H:(if t633=true then (if t624=true then (if t628=true then (if t632=true then ((Q8.f kj47 t629 t625).bind fun t634=>(some t634)) else (none)) else (none)) else (none)) else (none))=some r:=H;have A74:=Aside0.mk A740;clear A740
               by_cases c75:t633=true
               ·
                subst c75;have H1:(if t624=true then (if t628=true then (if t632=true then ((Q8.f kj47 t629 t625).bind fun t634=>(some t634)) else (none)) else (none)) else (none))=some r:=by rw [if_pos rfl] at H;exact H
                clear H;have H:=H1;clear H1
                by_cases c76:t624=true
                ·
                 subst c76;have H1:(if t628=true then (if t632=true then ((Q8.f kj47 t629 t625).bind fun t634=>(some t634)) else (none)) else (none))=some r:=by rw [if_pos rfl] at H;exact H
                 clear H;have H:=H1;clear H1
                 by_cases c77:t628=true
                 ·
                  subst c77;have H1:(if t632=true then ((Q8.f kj47 t629 t625).bind fun t634=>(some t634)) else (none))=some r:=by rw [if_pos rfl] at H;exact H
                  clear H;have H:=H1;clear H1
                  by_cases c78:t632=true
                  ·
                   subst c78;have H1:((Q8.f kj47 t629 t625).bind fun t634=>(some t634))=some r:=by rw [if_pos rfl] at H;exact H
                   clear H;have H:=H1;clear H1;replace H:=Option.bind_eq_some_iff.mp H;obtain ⟨t634,A790,H⟩:=H;replace H:(some t634)=some r:=H;have A79:=Aside0.mk A790;clear A790;obtain rfl:=Option.some.inj H;have hnb80:=NB600_575.out;have hnc80:=NB575_600.out;have hcz81_0:wc.cell? ⟨gb600,0,none⟩=some (.slice Ao51 t593.length co51):=(Qx BK600.out 0).trans rfl;have hfz81_0:=Qp BK600.out 0;go_wp2_with (first|((with_reducible refine Qk (f:=16) rfl ?_);refine Q6 (some 139) rfl rfl Try.func16 (by kernel_rfl) rfl #[.agg #[.slice Ao51 t593.length co51]] rfl (by (try simp only [List.map_toArray,List.map_cons,List.map_nil]);first|done|rfl|(simp only [List.length_drop,List.length_take];rfl)) ?_;(with_reducible refine (Qcw.calls kj47 _ _ t593 t610 true _ ?side1 ?side2 A64.out).mono ?_);(case side1=>repeat (first|exact (Kd.R_reads' HO_601000.out).2.2|(with_reducible refine Kd.C_alloc ?_ _)|(with_reducible refine Kd.C_drewN ?_ _)|(with_reducible refine Kd.C_drew ?_)));(case side2=>exact (Kd.R_reads' HO_601000.out).2.1);rintro e w82 ⟨v611,rfl,ho0,hb⟩;refine ⟨_,rfl,?_⟩;have HO612:=Aside0.mk (Kd.R_lower (Kd.R_new' (Kd.R_new' (Kd.R_new' (Kd.R_new' ho0 (Kd.R_lt (by (with_reducible repeat (first|apply Kd.R_alloc|apply Kd.R_drewN|apply Kd.R_drew));exact HO_17.out))) (Kd.R_lt (by (with_reducible repeat (first|apply Kd.R_alloc|apply Kd.R_drewN|apply Kd.R_drew));exact HO_19.out))) (Kd.R_lt (by (with_reducible repeat (first|apply Kd.R_alloc|apply Kd.R_drewN|apply Kd.R_drew));exact HO_576000.out))) (Kd.R_lt (by (with_reducible repeat (first|apply Kd.R_alloc|apply Kd.R_drewN|apply Kd.R_drew));exact HO_601000.out))) (Qq (by repeat (first|(with_reducible first|exact HB.out|apply Qc|apply Qa|apply Qd|refine Qe ?_ GE575.out|refine Qe ?_ GE600.out)|exact HB.out))));replace HO_17:=Aside0.mk (Kd.R_elder' (by (with_reducible repeat (first|apply Kd.R_alloc|apply Kd.R_drewN|apply Kd.R_drew));exact HO_17.out) (Kd.R_base ho0) hb);replace HO_19:=Aside0.mk (Kd.R_elder' (by (with_reducible repeat (first|apply Kd.R_alloc|apply Kd.R_drewN|apply Kd.R_drew));exact HO_19.out) (Kd.R_base ho0) hb);replace HO_576000:=Aside0.mk (Kd.R_elder' (by (with_reducible repeat (first|apply Kd.R_alloc|apply Kd.R_drewN|apply Kd.R_drew));exact HO_576000.out) (Kd.R_base ho0) hb);replace HO_601000:=Aside0.mk (Kd.R_elder' (by (with_reducible repeat (first|apply Kd.R_alloc|apply Kd.R_drewN|apply Kd.R_drew));exact HO_601000.out) (Kd.R_base ho0) hb);replace BK575:=Aside0.mk (Qu (g:=gb575) (o:= .cells #[.slice Ao11 t568.length co11] 26 (0,0)) (by (with_reducible repeat (first|refine Qg ?_ _|refine Qh ?_|refine Qf ?_ _));exact BK575.out) hb);replace BK600:=Aside0.mk (Qu (g:=gb600) (o:= .cells #[.slice Ao51 t593.length co51] 26 (0,0)) (by (with_reducible repeat (first|refine Qg ?_ _|refine Qh ?_|refine Qf ?_ _));exact BK600.out) hb);replace HB:=Aside0.mk (Qj (by repeat (first|(with_reducible first|exact HB.out|apply Qc|apply Qa|apply Qd|refine Qe ?_ GE575.out|refine Qe ?_ GE600.out)|exact HB.out)) hb);(try clear hb);(try clear hb2);(try clear hk);(try clear hi);(try clear ho0))|((with_reducible refine Qbb (N:=23) rfl ?_);(try (refine Qdr (by rfl) ?_;dsimp only));refine Qbg ?hg (N:=23) ?hd (cs:= #[.slice none 0 0]) (t:=26) ?hr ?_;(case hd=>rfl);(case hg=>rfl);(case hr=>first|(go_simp;done)|(go_simp;rfl));intro gb614 hg w83 hbox hb;replace HO_17:=Aside0.mk (Kd.R_below (by (with_reducible repeat (first|apply Kd.R_alloc|apply Kd.R_drewN|apply Kd.R_drew));exact HO_17.out) hb);replace HO_19:=Aside0.mk (Kd.R_below (by (with_reducible repeat (first|apply Kd.R_alloc|apply Kd.R_drewN|apply Kd.R_drew));exact HO_19.out) hb);replace HO_576000:=Aside0.mk (Kd.R_below (by (with_reducible repeat (first|apply Kd.R_alloc|apply Kd.R_drewN|apply Kd.R_drew));exact HO_576000.out) hb);replace HO_601000:=Aside0.mk (Kd.R_below (by (with_reducible repeat (first|apply Kd.R_alloc|apply Kd.R_drewN|apply Kd.R_drew));exact HO_601000.out) hb);replace HO612:=Aside0.mk (Kd.R_below (by (with_reducible repeat (first|apply Kd.R_alloc|apply Kd.R_drewN|apply Kd.R_drew));exact HO612.out) hb);have BK614:=Aside0.mk (hbox);have GW614:=Aside0.mk ((by rw [hg];exact (Qq (by repeat (first|(with_reducible first|exact HB.out|apply Qc|apply Qa|apply Qd|refine Qe ?_ GE575.out|refine Qe ?_ GE600.out)|exact HB.out))):w.heap.size≤gb614));have GE614:=GW614;replace HB:=Aside0.mk (Qj (by repeat (first|(with_reducible first|exact HB.out|apply Qc|apply Qa|apply Qd|refine Qe ?_ GE575.out|refine Qe ?_ GE600.out)|exact HB.out)) hb);have NB575_614:=Aside0.mk ((by rw [hg];exact Nat.ne_of_lt (Qcu (g:=gb575) (o:= .cells #[.slice Ao11 t568.length co11] 26 (0,0)) (by (with_reducible repeat (first|refine Qg ?_ _|refine Qh ?_|refine Qf ?_ _));exact BK575.out)):gb575≠gb614));have NB614_575:=Aside0.mk ((by rw [hg];exact Nat.ne_of_gt (Qcu (g:=gb575) (o:= .cells #[.slice Ao11 t568.length co11] 26 (0,0)) (by (with_reducible repeat (first|refine Qg ?_ _|refine Qh ?_|refine Qf ?_ _));exact BK575.out)):gb614≠gb575));replace BK575:=Aside0.mk (Qu (g:=gb575) (o:= .cells #[.slice Ao11 t568.length co11] 26 (0,0)) (by (with_reducible repeat (first|refine Qg ?_ _|refine Qh ?_|refine Qf ?_ _));exact BK575.out) hb);have NB600_614:=Aside0.mk ((by rw [hg];exact Nat.ne_of_lt (Qcu (g:=gb600) (o:= .cells #[.slice Ao51 t593.length co51] 26 (0,0)) (by (with_reducible repeat (first|refine Qg ?_ _|refine Qh ?_|refine Qf ?_ _));exact BK600.out)):gb600≠gb614));have NB614_600:=Aside0.mk ((by rw [hg];exact Nat.ne_of_gt (Qcu (g:=gb600) (o:= .cells #[.slice Ao51 t593.length co51] 26 (0,0)) (by (with_reducible repeat (first|refine Qg ?_ _|refine Qh ?_|refine Qf ?_ _));exact BK600.out)):gb614≠gb600));replace BK600:=Aside0.mk (Qu (g:=gb600) (o:= .cells #[.slice Ao51 t593.length co51] 26 (0,0)) (by (with_reducible repeat (first|refine Qg ?_ _|refine Qh ?_|refine Qf ?_ _));exact BK600.out) hb);clear hb hbox hg;obtain ⟨Ao84,co84,eo84⟩:=Kd.R_slice HO612.out;subst eo84;have hnb85:=NB614_575.out;have hnc85:=NB575_614.out;have hnb86:=NB614_600.out;have hnc86:=NB600_614.out;have hcz87_0:w83.cell? ⟨gb614,0,none⟩=some (.slice none 0 0):=(Qx BK614.out 0).trans rfl;have hfz87_0:=Qp BK614.out 0;obtain ⟨Ao88,co88,eo88⟩:=Kd.R_slice HO_19.out;subst eo88)|((with_reducible refine Qk (f:=17) rfl ?_);refine Q6 (some 146) rfl rfl Try.func17 (by kernel_rfl) rfl #[.agg #[.slice Ao84 t610.length co84], .slice Ao88 t601.length co88, .int .i64 t599] rfl (by (try simp only [List.map_toArray,List.map_cons,List.map_nil]);first|done|rfl|(simp only [List.length_drop,List.length_take];rfl)) ?_;(with_reducible refine (Qct.calls kj47 _ _ t610 _ _ t601 t599 true true _ ?side1 ?side2 ?side3 ?side4 A65.out).mono ?_);(case side1=>refine (Kd.R_reads' (e:=3) (base:=w.heap.size) (ok:=fun k_=>((((True∧some k_≠(.slice Ao54 t596.length co54:Value).ownBlock)∧some k_≠(.slice Ao88 t601.length co88:Value).ownBlock)∧some k_≠(.slice Ao11 t568.length co11:Value).ownBlock)∧some k_≠(.slice Ao51 t593.length co51:Value).ownBlock)) (n:=t610.length) (c:=co84) ?_).2.2;exact (by (with_reducible repeat (first|apply Kd.R_alloc|apply Kd.R_drewN|apply Kd.R_drew));exact (Kd.R_mono (Kd.R_far (p:=⟨gb614,0,none⟩) (Kd.R_types HO612.out BK614.out (by decide)) (fun _ hk=>hk.2) (.slice Ao84 t610.length co84)) (fun _ h_=>h_.1))));(case side2=>exact (Kd.R_reads' HO612.out).2.1);(case side3=>refine (Kd.R_reads' (e:=3) (base:=w.heap.size) (ok:=fun k_=>((some k_≠(.slice Ao54 t596.length co54:Value).ownBlock∧(some k_≠(.slice Ao11 t568.length co11:Value).ownBlock∧some k_≠(.slice Ao51 t593.length co51:Value).ownBlock))∧some k_≠(.slice Ao84 t610.length co84:Value).ownBlock)) (n:=t601.length) (c:=co88) ?_).2.2;exact (by (with_reducible repeat (first|apply Kd.R_alloc|apply Kd.R_drewN|apply Kd.R_drew));exact (Kd.R_mono (Kd.R_far (p:=⟨gb614,0,none⟩) (Kd.R_types HO_19.out BK614.out (by decide)) (fun _ hk=>hk.2) (.slice Ao84 t610.length co84)) (fun _ h_=>h_.1))));(case side4=>exact (Kd.R_reads' HO_19.out).2.1);rintro e w89 ⟨rfl,hb⟩;refine ⟨_,rfl,?_⟩;replace HO_17:=Aside0.mk (Kd.R_below (by (with_reducible repeat (first|apply Kd.R_alloc|apply Kd.R_drewN|apply Kd.R_drew));exact (Kd.R_mono (Kd.R_far (p:=⟨gb614,0,none⟩) (Kd.R_types HO_17.out BK614.out (by decide)) (fun _ hk=>hk.2) (.slice Ao84 t610.length co84)) (fun _ h_=>h_.1))) hb);replace HO_19:=Aside0.mk (Kd.R_below (by (with_reducible repeat (first|apply Kd.R_alloc|apply Kd.R_drewN|apply Kd.R_drew));exact (Kd.R_mono (Kd.R_far (p:=⟨gb614,0,none⟩) (Kd.R_types HO_19.out BK614.out (by decide)) (fun _ hk=>hk.2) (.slice Ao84 t610.length co84)) (fun _ h_=>h_.1))) hb);replace HO_576000:=Aside0.mk (Kd.R_below (by (with_reducible repeat (first|apply Kd.R_alloc|apply Kd.R_drewN|apply Kd.R_drew));exact (Kd.R_mono (Kd.R_far (p:=⟨gb614,0,none⟩) (Kd.R_types HO_576000.out BK614.out (by decide)) (fun _ hk=>hk.2) (.slice Ao84 t610.length co84)) (fun _ h_=>h_.1))) hb);replace HO_601000:=Aside0.mk (Kd.R_below (by (with_reducible repeat (first|apply Kd.R_alloc|apply Kd.R_drewN|apply Kd.R_drew));exact (Kd.R_mono (Kd.R_far (p:=⟨gb614,0,none⟩) (Kd.R_types HO_601000.out BK614.out (by decide)) (fun _ hk=>hk.2) (.slice Ao84 t610.length co84)) (fun _ h_=>h_.1))) hb);replace HO612:=Aside0.mk (Kd.R_below (by (with_reducible repeat (first|apply Kd.R_alloc|apply Kd.R_drewN|apply Kd.R_drew));exact (Kd.R_mono (Kd.R_far (p:=⟨gb614,0,none⟩) (Kd.R_types HO612.out BK614.out (by decide)) (fun _ hk=>hk.2) (.slice Ao84 t610.length co84)) (fun _ h_=>h_.1))) hb);replace BK575:=Aside0.mk (Qu (g:=gb575) (o:= .cells #[.slice Ao11 t568.length co11] 26 (0,0)) (by (with_reducible repeat (first|refine Qg ?_ _|refine Qh ?_|refine Qf ?_ _));refine Qc6 ?_ NB575_614.out _;(with_reducible repeat (first|refine Qg ?_ _|refine Qh ?_|refine Qf ?_ _));exact BK575.out) hb);replace BK600:=Aside0.mk (Qu (g:=gb600) (o:= .cells #[.slice Ao51 t593.length co51] 26 (0,0)) (by (with_reducible repeat (first|refine Qg ?_ _|refine Qh ?_|refine Qf ?_ _));refine Qc6 ?_ NB600_614.out _;(with_reducible repeat (first|refine Qg ?_ _|refine Qh ?_|refine Qf ?_ _));exact BK600.out) hb);replace BK614:=Aside0.mk (Qu (g:=gb614) (o:= .cells #[.slice Ao84 t610.length co84] 26 (0,0)) (by (with_reducible repeat (first|refine Qg ?_ _|refine Qh ?_|refine Qf ?_ _));refine Qcn (cs:= #[.slice none 0 0]) ?_ 0 _ rfl;(with_reducible repeat (first|refine Qg ?_ _|refine Qh ?_|refine Qf ?_ _));exact BK614.out) hb);replace HB:=Aside0.mk (Qj (by repeat (first|(with_reducible first|exact HB.out|apply Qc|apply Qa|apply Qd|refine Qe ?_ GE575.out|refine Qe ?_ GE600.out|refine Qe ?_ GE614.out)|exact HB.out)) hb);(try clear hb);(try clear hb2);(try clear hk);(try clear hi);have hcz90_0:w89.cell? ⟨gb614,0,none⟩=some (.slice Ao84 t610.length co84):=(Qx BK614.out 0).trans rfl;have hfz90_0:=Qp BK614.out 0)|((with_reducible refine Qk (f:=14) rfl ?_);refine Q6 (some 153) rfl rfl Try.func14 (by kernel_rfl) rfl #[.agg #[.slice Ao84 t610.length co84], .slice Ao88 t601.length co88, .int .i64 t599] rfl (by (try simp only [List.map_toArray,List.map_cons,List.map_nil]);first|done|rfl|(simp only [List.length_drop,List.length_take];rfl)) ?_;(with_reducible refine (Qby.calls kj47 _ _ t610 _ _ t601 t599 t617 true _ ?side1 ?side2 ?side3 ?side4 A66.out).mono ?_);(case side1=>repeat (first|exact (Kd.R_reads' HO612.out).2.2|(with_reducible refine Kd.C_alloc ?_ _)|(with_reducible refine Kd.C_drewN ?_ _)|(with_reducible refine Kd.C_drew ?_)));(case side2=>exact (Kd.R_reads' HO612.out).2.1);(case side3=>repeat (first|exact (Kd.R_reads' HO_19.out).2.2|(with_reducible refine Kd.C_alloc ?_ _)|(with_reducible refine Kd.C_drewN ?_ _)|(with_reducible refine Kd.C_drew ?_)));(case side4=>exact (Kd.R_reads' HO_19.out).2.1);rintro e w91 ⟨v618,rfl,ho0,hb⟩;refine ⟨_,rfl,?_⟩;have HO619:=Aside0.mk (Kd.R_lower (Kd.R_new' (Kd.R_new' (Kd.R_new' (Kd.R_new' (Kd.R_new' ho0 (Kd.R_lt (by (with_reducible repeat (first|apply Kd.R_alloc|apply Kd.R_drewN|apply Kd.R_drew));exact HO_17.out))) (Kd.R_lt (by (with_reducible repeat (first|apply Kd.R_alloc|apply Kd.R_drewN|apply Kd.R_drew));exact HO_19.out))) (Kd.R_lt (by (with_reducible repeat (first|apply Kd.R_alloc|apply Kd.R_drewN|apply Kd.R_drew));exact HO_576000.out))) (Kd.R_lt (by (with_reducible repeat (first|apply Kd.R_alloc|apply Kd.R_drewN|apply Kd.R_drew));exact HO_601000.out))) (Kd.R_lt (by (with_reducible repeat (first|apply Kd.R_alloc|apply Kd.R_drewN|apply Kd.R_drew));exact HO612.out))) (Qq (by repeat (first|(with_reducible first|exact HB.out|apply Qc|apply Qa|apply Qd|refine Qe ?_ GE575.out|refine Qe ?_ GE600.out|refine Qe ?_ GE614.out)|exact HB.out))));replace HO_17:=Aside0.mk (Kd.R_elder' (by (with_reducible repeat (first|apply Kd.R_alloc|apply Kd.R_drewN|apply Kd.R_drew));exact HO_17.out) (Kd.R_base ho0) hb);replace HO_19:=Aside0.mk (Kd.R_elder' (by (with_reducible repeat (first|apply Kd.R_alloc|apply Kd.R_drewN|apply Kd.R_drew));exact HO_19.out) (Kd.R_base ho0) hb);replace HO_576000:=Aside0.mk (Kd.R_elder' (by (with_reducible repeat (first|apply Kd.R_alloc|apply Kd.R_drewN|apply Kd.R_drew));exact HO_576000.out) (Kd.R_base ho0) hb);replace HO_601000:=Aside0.mk (Kd.R_elder' (by (with_reducible repeat (first|apply Kd.R_alloc|apply Kd.R_drewN|apply Kd.R_drew));exact HO_601000.out) (Kd.R_base ho0) hb);replace HO612:=Aside0.mk (Kd.R_elder' (by (with_reducible repeat (first|apply Kd.R_alloc|apply Kd.R_drewN|apply Kd.R_drew));exact HO612.out) (Kd.R_base ho0) hb);replace BK575:=Aside0.mk (Qu (g:=gb575) (o:= .cells #[.slice Ao11 t568.length co11] 26 (0,0)) (by (with_reducible repeat (first|refine Qg ?_ _|refine Qh ?_|refine Qf ?_ _));exact BK575.out) hb);replace BK600:=Aside0.mk (Qu (g:=gb600) (o:= .cells #[.slice Ao51 t593.length co51] 26 (0,0)) (by (with_reducible repeat (first|refine Qg ?_ _|refine Qh ?_|refine Qf ?_ _));exact BK600.out) hb);replace BK614:=Aside0.mk (Qu (g:=gb614) (o:= .cells #[.slice Ao84 t610.length co84] 26 (0,0)) (by (with_reducible repeat (first|refine Qg ?_ _|refine Qh ?_|refine Qf ?_ _));exact BK614.out) hb);replace HB:=Aside0.mk (Qj (by repeat (first|(with_reducible first|exact HB.out|apply Qc|apply Qa|apply Qd|refine Qe ?_ GE575.out|refine Qe ?_ GE600.out|refine Qe ?_ GE614.out)|exact HB.out)) hb);(try clear hb);(try clear hb2);(try clear hk);(try clear hi);(try clear ho0);have hcz92_0:w91.cell? ⟨gb600,0,none⟩=some (.slice Ao51 t593.length co51):=(Qx BK600.out 0).trans rfl;have hfz92_0:=Qp BK600.out 0)|((with_reducible refine Qk (f:=18) rfl ?_);refine Q6 (some 160) rfl rfl Try.func18 (by kernel_rfl) rfl #[.agg #[.slice Ao51 t593.length co51], .slice Ao54 t596.length co54, .int .i64 t599] rfl (by (try simp only [List.map_toArray,List.map_cons,List.map_nil]);first|done|rfl|(simp only [List.length_drop,List.length_take];rfl)) ?_;(with_reducible refine (Qca.calls kj47 _ _ t593 _ _ t596 t599 t621 true _ ?side1 ?side2 ?side3 ?side4 A67.out).mono ?_);(case side1=>repeat (first|exact (Kd.R_reads' HO_601000.out).2.2|(with_reducible refine Kd.C_alloc ?_ _)|(with_reducible refine Kd.C_drewN ?_ _)|(with_reducible refine Kd.C_drew ?_)));(case side2=>exact (Kd.R_reads' HO_601000.out).2.1);(case side3=>repeat (first|exact (Kd.R_reads' HO_17.out).2.2|(with_reducible refine Kd.C_alloc ?_ _)|(with_reducible refine Kd.C_drewN ?_ _)|(with_reducible refine Kd.C_drew ?_)));(case side4=>exact (Kd.R_reads' HO_17.out).2.1);rintro e w93 ⟨v622,rfl,ho0,hb⟩;refine ⟨_,rfl,?_⟩;have HO623:=Aside0.mk (Kd.R_lower (Kd.R_new' (Kd.R_new' (Kd.R_new' (Kd.R_new' (Kd.R_new' (Kd.R_new' ho0 (Kd.R_lt (by (with_reducible repeat (first|apply Kd.R_alloc|apply Kd.R_drewN|apply Kd.R_drew));exact HO_17.out))) (Kd.R_lt (by (with_reducible repeat (first|apply Kd.R_alloc|apply Kd.R_drewN|apply Kd.R_drew));exact HO_19.out))) (Kd.R_lt (by (with_reducible repeat (first|apply Kd.R_alloc|apply Kd.R_drewN|apply Kd.R_drew));exact HO_576000.out))) (Kd.R_lt (by (with_reducible repeat (first|apply Kd.R_alloc|apply Kd.R_drewN|apply Kd.R_drew));exact HO_601000.out))) (Kd.R_lt (by (with_reducible repeat (first|apply Kd.R_alloc|apply Kd.R_drewN|apply Kd.R_drew));exact HO612.out))) (Kd.R_lt (by (with_reducible repeat (first|apply Kd.R_alloc|apply Kd.R_drewN|apply Kd.R_drew));exact HO619.out))) (Qq (by repeat (first|(with_reducible first|exact HB.out|apply Qc|apply Qa|apply Qd|refine Qe ?_ GE575.out|refine Qe ?_ GE600.out|refine Qe ?_ GE614.out)|exact HB.out))));replace HO_17:=Aside0.mk (Kd.R_elder' (by (with_reducible repeat (first|apply Kd.R_alloc|apply Kd.R_drewN|apply Kd.R_drew));exact HO_17.out) (Kd.R_base ho0) hb);replace HO_19:=Aside0.mk (Kd.R_elder' (by (with_reducible repeat (first|apply Kd.R_alloc|apply Kd.R_drewN|apply Kd.R_drew));exact HO_19.out) (Kd.R_base ho0) hb);replace HO_576000:=Aside0.mk (Kd.R_elder' (by (with_reducible repeat (first|apply Kd.R_alloc|apply Kd.R_drewN|apply Kd.R_drew));exact HO_576000.out) (Kd.R_base ho0) hb);replace HO_601000:=Aside0.mk (Kd.R_elder' (by (with_reducible repeat (first|apply Kd.R_alloc|apply Kd.R_drewN|apply Kd.R_drew));exact HO_601000.out) (Kd.R_base ho0) hb);replace HO612:=Aside0.mk (Kd.R_elder' (by (with_reducible repeat (first|apply Kd.R_alloc|apply Kd.R_drewN|apply Kd.R_drew));exact HO612.out) (Kd.R_base ho0) hb);replace HO619:=Aside0.mk (Kd.R_elder' (by (with_reducible repeat (first|apply Kd.R_alloc|apply Kd.R_drewN|apply Kd.R_drew));exact HO619.out) (Kd.R_base ho0) hb);replace BK575:=Aside0.mk (Qu (g:=gb575) (o:= .cells #[.slice Ao11 t568.length co11] 26 (0,0)) (by (with_reducible repeat (first|refine Qg ?_ _|refine Qh ?_|refine Qf ?_ _));exact BK575.out) hb);replace BK600:=Aside0.mk (Qu (g:=gb600) (o:= .cells #[.slice Ao51 t593.length co51] 26 (0,0)) (by (with_reducible repeat (first|refine Qg ?_ _|refine Qh ?_|refine Qf ?_ _));exact BK600.out) hb);replace BK614:=Aside0.mk (Qu (g:=gb614) (o:= .cells #[.slice Ao84 t610.length co84] 26 (0,0)) (by (with_reducible repeat (first|refine Qg ?_ _|refine Qh ?_|refine Qf ?_ _));exact BK614.out) hb);replace HB:=Aside0.mk (Qj (by repeat (first|(with_reducible first|exact HB.out|apply Qc|apply Qa|apply Qd|refine Qe ?_ GE575.out|refine Qe ?_ GE600.out|refine Qe ?_ GE614.out)|exact HB.out)) hb);(try clear hb);(try clear hb2);(try clear hk);(try clear hi);(try clear ho0);have hcz94_0:w93.cell? ⟨gb600,0,none⟩=some (.slice Ao51 t593.length co51):=(Qx BK600.out 0).trans rfl;have hfz94_0:=Qp BK600.out 0;obtain ⟨Ao95,co95,eo95⟩:=Kd.R_slice HO623.out;subst eo95)|((with_reducible refine Qk (f:=14) rfl ?_);refine Q6 (some 167) rfl rfl Try.func14 (by kernel_rfl) rfl #[.agg #[.slice Ao51 t593.length co51], .slice Ao95 t621.length co95, .int .i64 t599] rfl (by (try simp only [List.map_toArray,List.map_cons,List.map_nil]);first|done|rfl|(simp only [List.length_drop,List.length_take];rfl)) ?_;(with_reducible refine (Qby.calls kj47 _ _ t593 _ _ t621 t599 t625 true _ ?side1 ?side2 ?side3 ?side4 A68.out).mono ?_);(case side1=>repeat (first|exact (Kd.R_reads' HO_601000.out).2.2|(with_reducible refine Kd.C_alloc ?_ _)|(with_reducible refine Kd.C_drewN ?_ _)|(with_reducible refine Kd.C_drew ?_)));(case side2=>exact (Kd.R_reads' HO_601000.out).2.1);(case side3=>repeat (first|exact (Kd.R_reads' HO623.out).2.2|(with_reducible refine Kd.C_alloc ?_ _)|(with_reducible refine Kd.C_drewN ?_ _)|(with_reducible refine Kd.C_drew ?_)));(case side4=>exact (Kd.R_reads' HO623.out).2.1);rintro e w96 ⟨v626,rfl,ho0,hb⟩;refine ⟨_,rfl,?_⟩;have HO627:=Aside0.mk (Kd.R_lower (Kd.R_new' (Kd.R_new' (Kd.R_new' (Kd.R_new' (Kd.R_new' (Kd.R_new' (Kd.R_new' ho0 (Kd.R_lt (by (with_reducible repeat (first|apply Kd.R_alloc|apply Kd.R_drewN|apply Kd.R_drew));exact HO_17.out))) (Kd.R_lt (by (with_reducible repeat (first|apply Kd.R_alloc|apply Kd.R_drewN|apply Kd.R_drew));exact HO_19.out))) (Kd.R_lt (by (with_reducible repeat (first|apply Kd.R_alloc|apply Kd.R_drewN|apply Kd.R_drew));exact HO_576000.out))) (Kd.R_lt (by (with_reducible repeat (first|apply Kd.R_alloc|apply Kd.R_drewN|apply Kd.R_drew));exact HO_601000.out))) (Kd.R_lt (by (with_reducible repeat (first|apply Kd.R_alloc|apply Kd.R_drewN|apply Kd.R_drew));exact HO612.out))) (Kd.R_lt (by (with_reducible repeat (first|apply Kd.R_alloc|apply Kd.R_drewN|apply Kd.R_drew));exact HO619.out))) (Kd.R_lt (by (with_reducible repeat (first|apply Kd.R_alloc|apply Kd.R_drewN|apply Kd.R_drew));exact HO623.out))) (Qq (by repeat (first|(with_reducible first|exact HB.out|apply Qc|apply Qa|apply Qd|refine Qe ?_ GE575.out|refine Qe ?_ GE600.out|refine Qe ?_ GE614.out)|exact HB.out))));replace HO_17:=Aside0.mk (Kd.R_elder' (by (with_reducible repeat (first|apply Kd.R_alloc|apply Kd.R_drewN|apply Kd.R_drew));exact HO_17.out) (Kd.R_base ho0) hb);replace HO_19:=Aside0.mk (Kd.R_elder' (by (with_reducible repeat (first|apply Kd.R_alloc|apply Kd.R_drewN|apply Kd.R_drew));exact HO_19.out) (Kd.R_base ho0) hb);replace HO_576000:=Aside0.mk (Kd.R_elder' (by (with_reducible repeat (first|apply Kd.R_alloc|apply Kd.R_drewN|apply Kd.R_drew));exact HO_576000.out) (Kd.R_base ho0) hb);replace HO_601000:=Aside0.mk (Kd.R_elder' (by (with_reducible repeat (first|apply Kd.R_alloc|apply Kd.R_drewN|apply Kd.R_drew));exact HO_601000.out) (Kd.R_base ho0) hb);replace HO612:=Aside0.mk (Kd.R_elder' (by (with_reducible repeat (first|apply Kd.R_alloc|apply Kd.R_drewN|apply Kd.R_drew));exact HO612.out) (Kd.R_base ho0) hb);replace HO619:=Aside0.mk (Kd.R_elder' (by (with_reducible repeat (first|apply Kd.R_alloc|apply Kd.R_drewN|apply Kd.R_drew));exact HO619.out) (Kd.R_base ho0) hb);replace HO623:=Aside0.mk (Kd.R_elder' (by (with_reducible repeat (first|apply Kd.R_alloc|apply Kd.R_drewN|apply Kd.R_drew));exact HO623.out) (Kd.R_base ho0) hb);replace BK575:=Aside0.mk (Qu (g:=gb575) (o:= .cells #[.slice Ao11 t568.length co11] 26 (0,0)) (by (with_reducible repeat (first|refine Qg ?_ _|refine Qh ?_|refine Qf ?_ _));exact BK575.out) hb);replace BK600:=Aside0.mk (Qu (g:=gb600) (o:= .cells #[.slice Ao51 t593.length co51] 26 (0,0)) (by (with_reducible repeat (first|refine Qg ?_ _|refine Qh ?_|refine Qf ?_ _));exact BK600.out) hb);replace BK614:=Aside0.mk (Qu (g:=gb614) (o:= .cells #[.slice Ao84 t610.length co84] 26 (0,0)) (by (with_reducible repeat (first|refine Qg ?_ _|refine Qh ?_|refine Qf ?_ _));exact BK614.out) hb);replace HB:=Aside0.mk (Qj (by repeat (first|(with_reducible first|exact HB.out|apply Qc|apply Qa|apply Qd|refine Qe ?_ GE575.out|refine Qe ?_ GE600.out|refine Qe ?_ GE614.out)|exact HB.out)) hb);(try clear hb);(try clear hb2);(try clear hk);(try clear hi);(try clear ho0);have hcz97_0:w96.cell? ⟨gb614,0,none⟩=some (.slice Ao84 t610.length co84):=(Qx BK614.out 0).trans rfl;have hfz97_0:=Qp BK614.out 0)|((with_reducible refine Qk (f:=11) rfl ?_);refine Q6 (some 174) rfl rfl Try.func11 (by kernel_rfl) rfl #[.agg #[.slice Ao84 t610.length co84], .slice Ao88 t601.length co88, .int .i64 t599] rfl (by (try simp only [List.map_toArray,List.map_cons,List.map_nil]);first|done|rfl|(simp only [List.length_drop,List.length_take];rfl)) ?_;(with_reducible refine (Qcf.calls kj47 _ _ t610 _ _ t601 t599 t629 true _ ?side1 ?side2 ?side3 ?side4 A69.out).mono ?_);(case side1=>repeat (first|exact (Kd.R_reads' HO612.out).2.2|(with_reducible refine Kd.C_alloc ?_ _)|(with_reducible refine Kd.C_drewN ?_ _)|(with_reducible refine Kd.C_drew ?_)));(case side2=>exact (Kd.R_reads' HO612.out).2.1);(case side3=>repeat (first|exact (Kd.R_reads' HO_19.out).2.2|(with_reducible refine Kd.C_alloc ?_ _)|(with_reducible refine Kd.C_drewN ?_ _)|(with_reducible refine Kd.C_drew ?_)));(case side4=>exact (Kd.R_reads' HO_19.out).2.1);rintro e w98 ⟨v630,rfl,ho0,hb⟩;refine ⟨_,rfl,?_⟩;have HO631:=Aside0.mk (Kd.R_lower (Kd.R_new' (Kd.R_new' (Kd.R_new' (Kd.R_new' (Kd.R_new' (Kd.R_new' (Kd.R_new' (Kd.R_new' ho0 (Kd.R_lt (by (with_reducible repeat (first|apply Kd.R_alloc|apply Kd.R_drewN|apply Kd.R_drew));exact HO_17.out))) (Kd.R_lt (by (with_reducible repeat (first|apply Kd.R_alloc|apply Kd.R_drewN|apply Kd.R_drew));exact HO_19.out))) (Kd.R_lt (by (with_reducible repeat (first|apply Kd.R_alloc|apply Kd.R_drewN|apply Kd.R_drew));exact HO_576000.out))) (Kd.R_lt (by (with_reducible repeat (first|apply Kd.R_alloc|apply Kd.R_drewN|apply Kd.R_drew));exact HO_601000.out))) (Kd.R_lt (by (with_reducible repeat (first|apply Kd.R_alloc|apply Kd.R_drewN|apply Kd.R_drew));exact HO612.out))) (Kd.R_lt (by (with_reducible repeat (first|apply Kd.R_alloc|apply Kd.R_drewN|apply Kd.R_drew));exact HO619.out))) (Kd.R_lt (by (with_reducible repeat (first|apply Kd.R_alloc|apply Kd.R_drewN|apply Kd.R_drew));exact HO623.out))) (Kd.R_lt (by (with_reducible repeat (first|apply Kd.R_alloc|apply Kd.R_drewN|apply Kd.R_drew));exact HO627.out))) (Qq (by repeat (first|(with_reducible first|exact HB.out|apply Qc|apply Qa|apply Qd|refine Qe ?_ GE575.out|refine Qe ?_ GE600.out|refine Qe ?_ GE614.out)|exact HB.out))));replace HO_17:=Aside0.mk (Kd.R_elder' (by (with_reducible repeat (first|apply Kd.R_alloc|apply Kd.R_drewN|apply Kd.R_drew));exact HO_17.out) (Kd.R_base ho0) hb);replace HO_19:=Aside0.mk (Kd.R_elder' (by (with_reducible repeat (first|apply Kd.R_alloc|apply Kd.R_drewN|apply Kd.R_drew));exact HO_19.out) (Kd.R_base ho0) hb);replace HO_576000:=Aside0.mk (Kd.R_elder' (by (with_reducible repeat (first|apply Kd.R_alloc|apply Kd.R_drewN|apply Kd.R_drew));exact HO_576000.out) (Kd.R_base ho0) hb);replace HO_601000:=Aside0.mk (Kd.R_elder' (by (with_reducible repeat (first|apply Kd.R_alloc|apply Kd.R_drewN|apply Kd.R_drew));exact HO_601000.out) (Kd.R_base ho0) hb);replace HO612:=Aside0.mk (Kd.R_elder' (by (with_reducible repeat (first|apply Kd.R_alloc|apply Kd.R_drewN|apply Kd.R_drew));exact HO612.out) (Kd.R_base ho0) hb);replace HO619:=Aside0.mk (Kd.R_elder' (by (with_reducible repeat (first|apply Kd.R_alloc|apply Kd.R_drewN|apply Kd.R_drew));exact HO619.out) (Kd.R_base ho0) hb);replace HO623:=Aside0.mk (Kd.R_elder' (by (with_reducible repeat (first|apply Kd.R_alloc|apply Kd.R_drewN|apply Kd.R_drew));exact HO623.out) (Kd.R_base ho0) hb);replace HO627:=Aside0.mk (Kd.R_elder' (by (with_reducible repeat (first|apply Kd.R_alloc|apply Kd.R_drewN|apply Kd.R_drew));exact HO627.out) (Kd.R_base ho0) hb);replace BK575:=Aside0.mk (Qu (g:=gb575) (o:= .cells #[.slice Ao11 t568.length co11] 26 (0,0)) (by (with_reducible repeat (first|refine Qg ?_ _|refine Qh ?_|refine Qf ?_ _));exact BK575.out) hb);replace BK600:=Aside0.mk (Qu (g:=gb600) (o:= .cells #[.slice Ao51 t593.length co51] 26 (0,0)) (by (with_reducible repeat (first|refine Qg ?_ _|refine Qh ?_|refine Qf ?_ _));exact BK600.out) hb);replace BK614:=Aside0.mk (Qu (g:=gb614) (o:= .cells #[.slice Ao84 t610.length co84] 26 (0,0)) (by (with_reducible repeat (first|refine Qg ?_ _|refine Qh ?_|refine Qf ?_ _));exact BK614.out) hb);replace HB:=Aside0.mk (Qj (by repeat (first|(with_reducible first|exact HB.out|apply Qc|apply Qa|apply Qd|refine Qe ?_ GE575.out|refine Qe ?_ GE600.out|refine Qe ?_ GE614.out)|exact HB.out)) hb);(try clear hb);(try clear hb2);(try clear hk);(try clear hi);(try clear ho0);obtain ⟨Ao99,co99,eo99⟩:=Kd.R_slice HO619.out;subst eo99)|(go_at_call 12;(with_reducible refine (Q8.calls kj47 _ _ t617 _ _ t596 true _ ?side1 ?side2 ?side3 ?side4 A74.out).mono ?_);(case side1=>repeat (first|exact (Kd.R_reads' HO619.out).2.2|(with_reducible refine Kd.C_alloc ?_ _)|(with_reducible refine Kd.C_drewN ?_ _)|(with_reducible refine Kd.C_drew ?_)));(case side2=>exact (Kd.R_reads' HO619.out).2.1);(case side3=>repeat (first|exact (Kd.R_reads' HO_17.out).2.2|(with_reducible refine Kd.C_alloc ?_ _)|(with_reducible refine Kd.C_drewN ?_ _)|(with_reducible refine Kd.C_drew ?_)));(case side4=>exact (Kd.R_reads' HO_17.out).2.1);rintro e w' ⟨rfl,⟨nd,rfl⟩⟩;obtain ⟨Ao100,co100,eo100⟩:=Kd.R_slice HO631.out;subst eo100;obtain ⟨Ao101,co101,eo101⟩:=Kd.R_slice HO627.out;subst eo101)|(go_at_call 12;(with_reducible refine (Q8.calls kj47 _ _ t629 _ _ t625 t634 _ ?side1 ?side2 ?side3 ?side4 A79.out).mono ?_);(case side1=>repeat (first|exact (Kd.R_reads' HO631.out).2.2|(with_reducible refine Kd.C_alloc ?_ _)|(with_reducible refine Kd.C_drewN ?_ _)|(with_reducible refine Kd.C_drew ?_)));(case side2=>exact (Kd.R_reads' HO631.out).2.1);(case side3=>repeat (first|exact (Kd.R_reads' HO627.out).2.2|(with_reducible refine Kd.C_alloc ?_ _)|(with_reducible refine Kd.C_drewN ?_ _)|(with_reducible refine Kd.C_drew ?_)));(case side4=>exact (Kd.R_reads' HO627.out).2.1);rintro e w' ⟨rfl,⟨nd,rfl⟩⟩))
                   go_ret
                   exact ⟨by first|rfl|(simp [Qm,Ql] <;>rfl)|(simp [*,Qm,Ql] <;>rfl),by repeat (first|(with_reducible first|exact HB.out|apply Qc|apply Qa|apply Qd|refine Qe ?_ GE575.out|refine Qe ?_ GE600.out|refine Qe ?_ GE614.out)|exact HB.out)⟩
                  ·
                   replace c78:=Bool.eq_false_iff.mpr c78;subst c78;have H1:(none)=some r:=by rw [if_neg (show ¬ (false=true) by decide)] at H;exact H
                   clear H;have H:=H1;clear H1;exact absurd H (by simp)
                 ·
                  replace c77:=Bool.eq_false_iff.mpr c77;subst c77;have H1:(none)=some r:=by rw [if_neg (show ¬ (false=true) by decide)] at H;exact H
                  clear H;have H:=H1;clear H1;exact absurd H (by simp)
                ·
                 replace c76:=Bool.eq_false_iff.mpr c76;subst c76;have H1:(none)=some r:=by rw [if_neg (show ¬ (false=true) by decide)] at H;exact H
                 clear H;have H:=H1;clear H1;exact absurd H (by simp)
               ·
                replace c75:=Bool.eq_false_iff.mpr c75;subst c75;have H1:(none)=some r:=by rw [if_neg (show ¬ (false=true) by decide)] at H;exact H
                clear H;have H:=H1;clear H1;exact absurd H (by simp)
              ·
               replace c73:=Bool.eq_false_iff.mpr c73;subst c73;have H1:(none)=some r:=by rw [if_neg (show ¬ (false=true) by decide)] at H;exact H
               clear H;have H:=H1;clear H1;exact absurd H (by simp)
             ·
              replace c72:=Bool.eq_false_iff.mpr c72;subst c72;have H1:(none)=some r:=by rw [if_neg (show ¬ (false=true) by decide)] at H;exact H
              clear H;have H:=H1;clear H1;exact absurd H (by simp)
            ·
             replace c71:=Bool.eq_false_iff.mpr c71;subst c71;have H1:(none)=some r:=by rw [if_neg (show ¬ (false=true) by decide)] at H;exact H
             clear H;have H:=H1;clear H1;exact absurd H (by simp)
           ·
            replace c70:=Bool.eq_false_iff.mpr c70;subst c70;have H1:(none)=some r:=by rw [if_neg (show ¬ (false=true) by decide)] at H;exact H
            clear H;have H:=H1;clear H1;exact absurd H (by simp)
          ·
           replace c63:=Bool.eq_false_iff.mpr c63;subst c63;have H1:(some true)=some r:=by rw [if_neg (show ¬ (false=true) by decide)] at H;exact H
           clear H;have H:=H1;clear H1;obtain rfl:=Option.some.inj H;go_wp2
           go_ret
           exact ⟨by first|rfl|(simp [Qm,Ql] <;>rfl)|(simp [*,Qm,Ql] <;>rfl),by repeat (first|(with_reducible first|exact HB.out|apply Qc|apply Qa|apply Qd|refine Qe ?_ GE575.out|refine Qe ?_ GE600.out)|exact HB.out)⟩
def laws_FnArrayOrbits.Pure : Prop := ∀ (l0 : List Int) (l1 : List Int), l0.length ≤ maxLen → l0.length * 1 ≤ 140737488351232 → (∀ x ∈ l0, (Lit.int .u8 x).wf = true) → l1.length ≤ maxLen → l1.length * 1 ≤ 140737488351232 → (∀ x ∈ l1, (Lit.int .u8 x).wf = true) → ∃ k, laws_FnArrayOrbits.f k l0 l1 = some true
theorem laws_FnArrayOrbits.walk (P : laws_FnArrayOrbits.Pure) (a0 : Option Addr) (len0 cap0 : Nat) (z0 : List Int) (a1 : Option Addr) (len1 cap1 : Nat) (z1 : List Int) (w : World) (w0 : (a0 = none ∧ len0 = 0 ∧ cap0 = 0 ∧ z0 = []) ∨ ∃ x, a0 = some x ∧ len0 ≤ cap0 ∧ cap0 ≤ maxLen ∧ z0.length = cap0 ∧ (∀ i, i < z0.length → w.cell? (x.add i) = some (.int .u8 (z0.getD i 0))) ∧ ∀ n ∈ z0, (Lit.int .u8 n).wf = true) (y0 : len0 * 1 ≤ 140737488351232) (w1 : (a1 = none ∧ len1 = 0 ∧ cap1 = 0 ∧ z1 = []) ∨ ∃ x, a1 = some x ∧ len1 ≤ cap1 ∧ cap1 ≤ maxLen ∧ z1.length = cap1 ∧ (∀ i, i < z1.length → w.cell? (x.add i) = some (.int .u8 (z1.getD i 0))) ∧ ∀ n ∈ z1, (Lit.int .u8 n).wf = true) (y1 : len1 * 1 ≤ 140737488351232) :
 Calls Try.prog 3 #[.slice a0 len0 cap0, .slice a1 len1 cap1] w fun e w'=>e= .returned (.bool true)∧Below w.heap.size w w':=by
 obtain ⟨l0,rfl,hr0,hm0,hw0,hc0⟩:=Qda.ofRowC w0;obtain ⟨l1,rfl,hr1,hm1,hw1,hc1⟩:=Qda.ofRowC w1;obtain ⟨k,h⟩:=P l0 l1 hm0 y0 hw0 hm1 y1 hw1;refine (laws_FnArrayOrbits.calls k _ _ l0 _ _ l1 true w (Kd.C_of_reads (d:=(0:Int)) (h1:=fun _=>rfl) hr0) hc0 (Kd.C_of_reads (d:=(0:Int)) (h1:=fun _=>rfl) hr1) hc1 h).mono ?_;rintro e w' ⟨rfl,hd⟩;exact ⟨rfl,hd⟩
end Go.Proofs.Ytkgngggppcmpfaa.L
end
