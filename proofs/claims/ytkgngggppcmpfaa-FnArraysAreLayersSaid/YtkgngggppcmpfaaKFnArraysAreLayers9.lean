/- Laws about the given program: the law FnArraysAreLayers answers true for every input that its row lets in; no condition is added to the given statement. Contracts of the Go functions that it reaches, and the plain proof over lists. -/
import Derived.Laws.BitsLemmas
import Derived.WalkKit
import Derived.Test.YtkgngggppcmpfaaWFnArraysAreLayers0
import Derived.Test.YtkgngggppcmpfaaKFnArraysAreLayers0
import Derived.Test.YtkgngggppcmpfaaKFnArraysAreLayers1
import Derived.Test.YtkgngggppcmpfaaKFnArraysAreLayers2
import Derived.Test.YtkgngggppcmpfaaKFnArraysAreLayers3
import Derived.Test.YtkgngggppcmpfaaKFnArraysAreLayers4
import Derived.Test.YtkgngggppcmpfaaKFnArraysAreLayers5
import Derived.Test.YtkgngggppcmpfaaKFnArraysAreLayers6
import Derived.Test.YtkgngggppcmpfaaKFnArraysAreLayers7
import Derived.Test.YtkgngggppcmpfaaKFnArraysAreLayers8
section
namespace Go.Proofs.Ytkgngggppcmpfaa.L
open Go.RowKit Go.Proofs.YtkgngggppcmpfaaW.PrintWords Go.Proofs.YtkgngggppcmpfaaW.PrintLast Go.Proofs.YtkgngggppcmpfaaW.PrintMore Go.Proofs.Ytkgngggppcmpfaa.X
attribute [local go_sem] Qbd Qbf Qbn Qbo Q3 Q4 Qbe Qbg
set_option linter.unusedVariables false
set_option linter.unusedSimpArgs false
mutual
def laws_FnArraysAreLayers.j0:Nat→List Int→List Int→Int→List Int→Bool→Int→Bool→List Int→Option (Bool)
 |0,_,_,_,_,_,_,_,_=>none
 |k+1,x1,x6,x7,x8,x9,x12,x121,x779000=>if x121=true then (none) else (if x9=true then ((Qcy.f k x779000 x8).bind fun bt792=>(if bt792.2=true then ((Qbu.f k bt792.1 x6).bind fun t796=>(if t796=true then (if (x8.length:Int)=x7 then ((Qd5.f k x779000 x12).bind fun t797=>(if t797=true then (laws_FnArraysAreLayers.j1 k x1) else (none))) else (none)) else (none))) else (none))) else (laws_FnArraysAreLayers.j1 k x1))
def laws_FnArraysAreLayers.j1:Nat→List Int→Option (Bool)
 |0,_=>none
 |k+1,x1=>(Qn.f k x1).bind fun bt798=>((Qcy.f k bt798.1 bt798.2).bind fun bt805=>((Qo.f k bt798.1 bt798.2).bind fun bt809=>(if (bt805.2 !=bt809.2)=true then (laws_FnArraysAreLayers.j2 k x1 bt798.2 bt805.1 bt805.2 true bt798.1) else ((Qbu.f k bt805.1 bt809.1).bind fun t813=>(laws_FnArraysAreLayers.j2 k x1 bt798.2 bt805.1 bt805.2 (!t813) bt798.1)))))
def laws_FnArraysAreLayers.j2:Nat→List Int→List Int→List Int→Bool→Bool→List Int→Option (Bool)
 |0,_,_,_,_,_,_=>none
 |k+1,x1,x19,x20,x21,x174,x805000=>if x174=true then (none) else (if x21=true then ((Qc4.f k x805000 x20 (x19.length:Int)).bind fun bt814=>(if bt814.2=true then ((Qbu.f k bt814.1 x19).bind fun t818=>(if t818=true then (laws_FnArraysAreLayers.j3 k x1) else (none))) else (none))) else (laws_FnArraysAreLayers.j3 k x1))
def laws_FnArraysAreLayers.j3:Nat→List Int→Option (Bool)
 |0,_=>none
 |k+1,x1=>(Qb5.f k x1).bind fun bt819=>((Qv.f k bt819.1 bt819.2.1 bt819.2.2).bind fun bt825=>((Qba.f k bt819.1 bt819.2.1 bt819.2.2).bind fun bt829=>(if (bt825.2 !=bt829.2)=true then (laws_FnArraysAreLayers.j4 k x1 bt819.2.1 bt819.2.2 bt825.1 bt825.2 true bt819.1) else ((Qbu.f k bt825.1 bt829.1).bind fun t833=>(laws_FnArraysAreLayers.j4 k x1 bt819.2.1 bt819.2.2 bt825.1 bt825.2 (!t833) bt819.1)))))
def laws_FnArraysAreLayers.j4:Nat→List Int→Int→Int→List Int→Bool→Bool→List Int→Option (Bool)
 |0,_,_,_,_,_,_,_=>none
 |k+1,x1,x27,x28,x29,x30,x220,x825000=>if x220=true then (none) else (if x30=true then (laws_FnArraysAreLayers.j5 k x1 x27 x28 x29 (decide (x28>0)) x825000) else (laws_FnArraysAreLayers.j5 k x1 x27 x28 x29 false x825000))
def laws_FnArraysAreLayers.j5:Nat→List Int→Int→Int→List Int→Bool→List Int→Option (Bool)
 |0,_,_,_,_,_,_=>none
 |k+1,x1,x27,x28,x29,x225,x825000=>if x225=true then ((Qdw.f k x825000 x29 x28).bind fun bt834=>((Qdr.f k x825000 x27).bind fun bt838=>((Qv.f k x825000 bt838.1 x28).bind fun bt840=>((Qcu.f k x825000 x29 x28).bind fun bt844=>(if bt834.2=true then (if bt838.2=true then (if bt840.2=true then ((Qbu.f k bt834.1 bt840.1).bind fun t846=>(if t846=true then (if bt844.2=true then (if bt844.1=x27 then (laws_FnArraysAreLayers.j6 k x1) else (none)) else (none)) else (none))) else (none)) else (none)) else (none)))))) else (laws_FnArraysAreLayers.j6 k x1)
def laws_FnArraysAreLayers.j6:Nat→List Int→Option (Bool)
 |0,_=>none
 |k+1,x1=>(Qda.f k x1).bind fun bt847=>((Qdg.f k bt847.1 bt847.2).bind fun bt852=>((Qds.f k bt847.1 bt847.2).bind fun bt856=>(if (bt852.2 !=bt856.2)=true then (laws_FnArraysAreLayers.j7 k x1 bt847.2 bt852.1 bt852.2 true bt847.1) else ((Qct.f k bt852.1 bt856.1).bind fun t860=>(laws_FnArraysAreLayers.j7 k x1 bt847.2 bt852.1 bt852.2 (!t860) bt847.1)))))
def laws_FnArraysAreLayers.j7:Nat→List Int→Int→List (List Int)→Bool→Bool→List Int→Option (Bool)
 |0,_,_,_,_,_,_=>none
 |k+1,x1,x42,x43,x44,x303,x852000=>if x303=true then (none) else (if x44=true then ((Qcw.f k x852000 x42).bind fun bt861=>(if bt861.2=true then (laws_FnArraysAreLayers.j8 k x1 x42 x43 (bt861.1 !=(x43.length:Int)) x852000) else (laws_FnArraysAreLayers.j8 k x1 x42 x43 true x852000))) else (laws_FnArraysAreLayers.j10 k x1))
def laws_FnArraysAreLayers.j10:Nat→List Int→Option (Bool)
 |0,_=>none
 |k+1,x1=>(Qcz.f k x1).bind fun bt866=>((Qcw.f k bt866.1 bt866.2).bind fun bt871=>((Ql.f k bt866.1 bt866.2).bind fun bt873=>(if (bt871.2 !=bt873.2)=true then (laws_FnArraysAreLayers.j11 k bt866.2 bt871.1 bt871.2 true bt866.1) else (laws_FnArraysAreLayers.j11 k bt866.2 bt871.1 bt871.2 (bt871.1 !=bt873.1) bt866.1))))
def laws_FnArraysAreLayers.j11:Nat→Int→Int→Bool→Bool→List Int→Option (Bool)
 |0,_,_,_,_,_=>none
 |k+1,x54,x55,x56,x363,x871000=>if x363=true then (none) else (if x56=true then (if x54=1 then ((Qdh.f k x871000).bind fun bt875=>(if bt875.2=true then (some (bt875.1==x55)) else (none))) else (some true)) else (some true))
def laws_FnArraysAreLayers.j8:Nat→List Int→Int→List (List Int)→Bool→List Int→Option (Bool)
 |0,_,_,_,_,_=>none
 |k+1,x1,x42,x43,x318,x852000=>if x318=true then (none) else (laws_FnArraysAreLayers.l0 k x1 x42 x43 (x43.length:Int) 0 x852000)
def laws_FnArraysAreLayers.l0:Nat→List Int→Int→List (List Int)→Int→Int→List Int→Option (Bool)
 |0,_,_,_,_,_,_=>none
 |k+1,x1,x42,x319,x320,x321,x852000=>if x321<x320 then (if 0≤x321 then (if x321<(x319.length:Int) then ((Qd0.f k x852000 (Qce x319 x321) x42).bind fun bt864=>(if bt864.2=true then (if bt864.1=true then (laws_FnArraysAreLayers.l0 k x1 x42 x319 x320 (wrap64 (x321+1)) x852000) else (none)) else (none))) else (none)) else (none)) else (laws_FnArraysAreLayers.j10 k x1)
end
def laws_FnArraysAreLayers.f (k:Nat) (l0:List Int) (l1:List Int):Option (Bool):=(Qfp.f l0 l1).bind fun t770=>(if t770=true then (some true) else ((Qc5.f k l0).bind fun bt771=>((Qc4.f k bt771.1 bt771.2.1 bt771.2.2).bind fun bt779=>((Qcb.f k bt771.1 bt771.2.1 bt771.2.2).bind fun bt783=>((Qcu.f k bt771.1 bt771.2.1 bt771.2.2).bind fun bt787=>((Qc6.f k bt771.1 bt771.2.1 bt771.2.2).bind fun bt789=>(if (bt779.2 !=bt783.2)=true then (laws_FnArraysAreLayers.j0 k l1 bt771.2.1 bt771.2.2 bt779.1 bt779.2 bt787.1 true bt771.1) else ((Qbu.f k bt779.1 bt783.1).bind fun t791=>(if t791=true then (if (bt787.2 !=bt789.2)=true then (laws_FnArraysAreLayers.j0 k l1 bt771.2.1 bt771.2.2 bt779.1 bt779.2 bt787.1 true bt771.1) else (if bt787.1=bt789.1 then (laws_FnArraysAreLayers.j0 k l1 bt771.2.1 bt771.2.2 bt779.1 bt779.2 bt787.1 (bt787.2 !=bt779.2) bt771.1) else (laws_FnArraysAreLayers.j0 k l1 bt771.2.1 bt771.2.2 bt779.1 bt779.2 bt787.1 true bt771.1))) else (laws_FnArraysAreLayers.j0 k l1 bt771.2.1 bt771.2.2 bt779.1 bt779.2 bt787.1 true bt771.1))))))))))
theorem laws_FnArraysAreLayers.mono_l: ∀ k,(∀ y0 y1 y2 y3 y4 y5 y6 y7,LeO (laws_FnArraysAreLayers.j0 k y0 y1 y2 y3 y4 y5 y6 y7) (laws_FnArraysAreLayers.j0 (k+1) y0 y1 y2 y3 y4 y5 y6 y7))∧(∀ y0,LeO (laws_FnArraysAreLayers.j1 k y0) (laws_FnArraysAreLayers.j1 (k+1) y0))∧(∀ y0 y1 y2 y3 y4 y5,LeO (laws_FnArraysAreLayers.j2 k y0 y1 y2 y3 y4 y5) (laws_FnArraysAreLayers.j2 (k+1) y0 y1 y2 y3 y4 y5))∧(∀ y0,LeO (laws_FnArraysAreLayers.j3 k y0) (laws_FnArraysAreLayers.j3 (k+1) y0))∧(∀ y0 y1 y2 y3 y4 y5 y6,LeO (laws_FnArraysAreLayers.j4 k y0 y1 y2 y3 y4 y5 y6) (laws_FnArraysAreLayers.j4 (k+1) y0 y1 y2 y3 y4 y5 y6))∧(∀ y0 y1 y2 y3 y4 y5,LeO (laws_FnArraysAreLayers.j5 k y0 y1 y2 y3 y4 y5) (laws_FnArraysAreLayers.j5 (k+1) y0 y1 y2 y3 y4 y5))∧(∀ y0,LeO (laws_FnArraysAreLayers.j6 k y0) (laws_FnArraysAreLayers.j6 (k+1) y0))∧(∀ y0 y1 y2 y3 y4 y5,LeO (laws_FnArraysAreLayers.j7 k y0 y1 y2 y3 y4 y5) (laws_FnArraysAreLayers.j7 (k+1) y0 y1 y2 y3 y4 y5))∧(∀ y0,LeO (laws_FnArraysAreLayers.j10 k y0) (laws_FnArraysAreLayers.j10 (k+1) y0))∧(∀ y0 y1 y2 y3 y4,LeO (laws_FnArraysAreLayers.j11 k y0 y1 y2 y3 y4) (laws_FnArraysAreLayers.j11 (k+1) y0 y1 y2 y3 y4))∧(∀ y0 y1 y2 y3 y4,LeO (laws_FnArraysAreLayers.j8 k y0 y1 y2 y3 y4) (laws_FnArraysAreLayers.j8 (k+1) y0 y1 y2 y3 y4))∧(∀ y0 y1 y2 y3 y4 y5,LeO (laws_FnArraysAreLayers.l0 k y0 y1 y2 y3 y4 y5) (laws_FnArraysAreLayers.l0 (k+1) y0 y1 y2 y3 y4 y5))
 |0=>⟨fun _ _ _ _ _ _ _ _ r h=>by simp [laws_FnArraysAreLayers.j0] at h,fun _ r h=>by simp [laws_FnArraysAreLayers.j1] at h,fun _ _ _ _ _ _ r h=>by simp [laws_FnArraysAreLayers.j2] at h,fun _ r h=>by simp [laws_FnArraysAreLayers.j3] at h,fun _ _ _ _ _ _ _ r h=>by simp [laws_FnArraysAreLayers.j4] at h,fun _ _ _ _ _ _ r h=>by simp [laws_FnArraysAreLayers.j5] at h,fun _ r h=>by simp [laws_FnArraysAreLayers.j6] at h,fun _ _ _ _ _ _ r h=>by simp [laws_FnArraysAreLayers.j7] at h,fun _ r h=>by simp [laws_FnArraysAreLayers.j10] at h,fun _ _ _ _ _ r h=>by simp [laws_FnArraysAreLayers.j11] at h,fun _ _ _ _ _ r h=>by simp [laws_FnArraysAreLayers.j8] at h,fun _ _ _ _ _ _ r h=>by simp [laws_FnArraysAreLayers.l0] at h⟩
 |k+1=>by
  obtain ⟨ih0,ih1,ih2,ih3,ih4,ih5,ih6,ih7,ih8,ih9,ih10,ih11⟩:=laws_FnArraysAreLayers.mono_l k;refine ⟨?_,?_,?_,?_,?_,?_,?_,?_,?_,?_,?_,?_⟩
  all_goals
   intros
   first|unfold laws_FnArraysAreLayers.j0|unfold laws_FnArraysAreLayers.j1|unfold laws_FnArraysAreLayers.j2|unfold laws_FnArraysAreLayers.j3|unfold laws_FnArraysAreLayers.j4|unfold laws_FnArraysAreLayers.j5|unfold laws_FnArraysAreLayers.j6|unfold laws_FnArraysAreLayers.j7|unfold laws_FnArraysAreLayers.j10|unfold laws_FnArraysAreLayers.j11|unfold laws_FnArraysAreLayers.j8|unfold laws_FnArraysAreLayers.l0
   repeat' (with_reducible first|apply ih0|apply ih1|apply ih2|apply ih3|apply ih4|apply ih5|apply ih6|apply ih7|apply ih8|apply ih9|apply ih10|apply ih11|apply Qdg.mono|apply Qv.mono|apply Qcw.mono|apply Qdh.mono|apply Qcy.mono|apply Qcu.mono|apply Qd0.mono|apply Qc4.mono|apply Qdw.mono|apply Qdr.mono|apply Qd5.mono|apply Qct.mono|apply Qbu.mono|apply Qds.mono|apply Qba.mono|apply Ql.mono|apply Qda.mono|apply Qb5.mono|apply Qcz.mono|apply Qn.mono|apply Qc5.mono|apply Qo.mono|apply Qc6.mono|apply Qcb.mono|exact LeO.refl _|exact LeO.none _|refine LeO.ite ?_ ?_|refine LeO.bind ?_ (fun _=> ?_))
theorem laws_FnArraysAreLayers.mono: ∀ a0 a1 k,LeO (laws_FnArraysAreLayers.f k a0 a1) (laws_FnArraysAreLayers.f (k+1) a0 a1):=by
 intro a0 a1 k;obtain ⟨ih0,ih1,ih2,ih3,ih4,ih5,ih6,ih7,ih8,ih9,ih10,ih11⟩:=laws_FnArraysAreLayers.mono_l k;unfold laws_FnArraysAreLayers.f
 repeat' (with_reducible first|apply ih0|apply ih1|apply ih2|apply ih3|apply ih4|apply ih5|apply ih6|apply ih7|apply ih8|apply ih9|apply ih10|apply ih11|apply Qdg.mono|apply Qv.mono|apply Qcw.mono|apply Qdh.mono|apply Qcy.mono|apply Qcu.mono|apply Qd0.mono|apply Qc4.mono|apply Qdw.mono|apply Qdr.mono|apply Qd5.mono|apply Qct.mono|apply Qbu.mono|apply Qds.mono|apply Qba.mono|apply Ql.mono|apply Qda.mono|apply Qb5.mono|apply Qcz.mono|apply Qn.mono|apply Qc5.mono|apply Qo.mono|apply Qc6.mono|apply Qcb.mono|exact LeO.refl _|exact LeO.none _|refine LeO.ite ?_ ?_|refine LeO.bind ?_ (fun _=> ?_))
set_option maxHeartbeats 8000000 in
set_option maxRecDepth 100000 in
theorem laws_FnArraysAreLayers.calls (k:Nat) (A0:Option Addr) (c0:Nat) (l0:List Int) (A1:Option Addr) (c1:Nat) (l1:List Int) (r:Bool) (w:World) (hr0:Kd.C (Kd.int .u8) w A0 l0.length l0) (hc0:l0.length≤c0) (hr1:Kd.C (Kd.int .u8) w A1 l1.length l1) (hc1:l1.length≤c1) (h:laws_FnArraysAreLayers.f k l0 l1=some r):
 Calls Try.prog 5 #[.slice A0 l0.length c0, .slice A1 l1.length c1] w fun e w'=>e= .returned (.bool r)∧Below w.heap.size w w':=by
 have hu26:=Try.underlying26;have HR0:=Zk hr0;have HC0:=Zk hc0;clear hr0 hc0;have HR1:=Zk hr1;have HC1:=Zk hc1;clear hr1 hc1;have HB:=Zk (Below.refl w.heap.size w);have H:((Qfp.f l0 l1).bind fun t770=>(if t770=true then (some true) else ((Qc5.f k l0).bind fun bt771=>((Qc4.f k bt771.1 bt771.2.1 bt771.2.2).bind fun bt779=>((Qcb.f k bt771.1 bt771.2.1 bt771.2.2).bind fun bt783=>((Qcu.f k bt771.1 bt771.2.1 bt771.2.2).bind fun bt787=>((Qc6.f k bt771.1 bt771.2.1 bt771.2.2).bind fun bt789=>(if (bt779.2 !=bt783.2)=true then (laws_FnArraysAreLayers.j0 k l1 bt771.2.1 bt771.2.2 bt779.1 bt779.2 bt787.1 true bt771.1) else ((Qbu.f k bt779.1 bt783.1).bind fun t791=>(if t791=true then (if (bt787.2 !=bt789.2)=true then (laws_FnArraysAreLayers.j0 k l1 bt771.2.1 bt771.2.2 bt779.1 bt779.2 bt787.1 true bt771.1) else (if bt787.1=bt789.1 then (laws_FnArraysAreLayers.j0 k l1 bt771.2.1 bt771.2.2 bt779.1 bt779.2 bt787.1 (bt787.2 !=bt779.2) bt771.1) else (laws_FnArraysAreLayers.j0 k l1 bt771.2.1 bt771.2.2 bt779.1 bt779.2 bt787.1 true bt771.1))) else (laws_FnArraysAreLayers.j0 k l1 bt771.2.1 bt771.2.2 bt779.1 bt779.2 bt787.1 true bt771.1)))))))))))=some r:=h;clear h;obtain ⟨t770,A3,H⟩:=bs H;(try dsimp only at H)
 by_cases c4:t770=true
 ·
  subst c4;rw [if_pos rfl] at H;obtain rfl:=Option.some.inj H;go_enter Try.func5,Try.ntmps5;go_wp2_with ((with_reducible refine gt ?_);first|(refine gA (some 63) Try.func6 #[.slice A0 l0.length c0, .slice A1 l1.length c1] ?_;(with_reducible refine (Qfp.calls _ _ l0 _ _ l1 true _ (uC HR0) HC0.out (uC HR1) HC1.out A3.out).mono ?_);rintro e w' ⟨rfl,⟨nd,rfl⟩⟩;refine ⟨_,rfl,?_⟩))
  go_ret
  exact ⟨by first|rfl|(simp [Qe,Qf] <;>rfl)|(simp [*,Qe,Qf] <;>rfl),uB HB⟩
 ·
  replace c4:=Bool.eq_false_iff.mpr c4;subst c4;rw [if_neg (show ¬ (false=true) by decide)] at H;obtain ⟨⟨t771,t774,t777⟩,A5,H⟩:=bs H;(try dsimp only at H)
  obtain ⟨⟨t779,t782⟩,A6,H⟩:=bs H;(try dsimp only at H)
  obtain ⟨⟨t783,t786⟩,A7,H⟩:=bs H;(try dsimp only at H)
  obtain ⟨⟨t787,t788⟩,A8,H⟩:=bs H;(try dsimp only at H)
  obtain ⟨⟨t789,t790⟩,A9,H⟩:=bs H;(try dsimp only at H)
  have HC10:=Zk H;clear H;go_enter Try.func5,Try.ntmps5
  as_aux_lemma=>
   go_upto_region 8 with ((with_reducible refine gt ?_);first|(refine gA (some 63) Try.func6 #[.slice A0 l0.length c0, .slice A1 l1.length c1] ?_;(with_reducible refine (Qfp.calls _ _ l0 _ _ l1 false _ (uC HR0) HC0.out (uC HR1) HC1.out A3.out).mono ?_);rintro e w' ⟨rfl,⟨nd,rfl⟩⟩;refine ⟨_,rfl,?_⟩)|(refine gA (some 66) Try.func36 #[.slice A0 l0.length c0] ?_;(with_reducible refine (Qc5.calls k _ _ l0 t771 t774 t777 _ (uC HR0) HC0.out A5.out).mono ?_);rintro e w11 ⟨v772,v775,rfl,ho0,ho1,hb⟩;refine ⟨_,rfl,?_⟩;have HO773:=Zk (Kd.R_lower ho0 (Qh (uB HB)));have HO776:=Zk (Kd.R_lower ho1 (Qh (uB HB)));replace HB:=Zk (Qc (uB HB) hb);(try clear hb ho0 ho1))|((with_reducible refine Qb2 (N:=5) rfl ?_);(try (refine Qcx (by rfl) ?_;dsimp only));refine bE (N:=5) (cs:= #[.slice none 0 0]) (t:=26) ?_;intro gb778 hg w12 hbox hb;replace HO773:=Zk (Kd.R_below (uR HO773) hb);replace HO776:=Zk (Kd.R_below (uR HO776) hb);have BK778:=Zk (hbox);have GW778:=Zk ((by rw [hg];exact (Qh (uB HB)):w.heap.size≤gb778));have GE778:=GW778;replace HB:=Zk (Qc (uB HB) hb);clear hb hbox hg;obtain ⟨Ao13,co13,eo13⟩:=Kd.R_slice HO773.out;subst eo13;have hcz14_0:=bC BK778;have hfz14_0:=Qg BK778.out 0;obtain ⟨Ao15,co15,eo15⟩:=Kd.R_slice HO776.out;subst eo15)|(refine gA (some 74) Try.func37 #[.agg #[.slice Ao13 t771.length co13], .slice Ao15 t774.length co15, .int .i64 t777] ?_;(with_reducible refine (Qc4.calls k _ _ t771 _ _ t774 t777 t779 t782 _ ?side1 ?side2 ?side3 ?side4 A6.out).mono ?_);(case side1=>refine (Kd.R_reads' (e:=3) (base:=w.heap.size) (ok:=fun k_=>some k_≠(.slice Ao15 t774.length co15:Value).ownBlock) (n:=t771.length) (c:=co13) ?_).2.2;exact (rF HO773 BK778 (.slice Ao13 t771.length co13)));(case side2=>exact (Kd.R_reads' HO773.out).2.1);(case side3=>refine (Kd.R_reads' (e:=3) (base:=w.heap.size) (ok:=fun k_=>some k_≠(.slice Ao13 t771.length co13:Value).ownBlock) (n:=t774.length) (c:=co15) ?_).2.2;exact (rF HO776 BK778 (.slice Ao13 t771.length co13)));(case side4=>exact (Kd.R_reads' HO776.out).2.1);rintro e w16 ⟨v780,rfl,ho0,hb⟩;refine ⟨_,rfl,?_⟩;have HO781:=Zk (Kd.R_lower (Kd.R_new' (Kd.R_new' ho0 (Kd.R_lt (rF HO773 BK778 (.slice Ao13 t771.length co13)))) (Kd.R_lt (rF HO776 BK778 (.slice Ao13 t771.length co13)))) (Qh (vB HB)));replace HO773:=Zk (Kd.R_elder' (rF HO773 BK778 (.slice Ao13 t771.length co13)) (Kd.R_base ho0) hb);replace HO776:=Zk (Kd.R_elder' (rF HO776 BK778 (.slice Ao13 t771.length co13)) (Kd.R_base ho0) hb);replace BK778:=Zk (Qd (g:=gb778) (o:= .cells #[.slice Ao13 t771.length co13] 26 (0,0)) bP hb);replace HB:=Zk (Qc (vB HB) hb);(try clear hb ho0);have hcz17_0:=bC BK778;have hfz17_0:=Qg BK778.out 0)|(refine gA (some 81) Try.func38 #[.agg #[.slice Ao13 t771.length co13], .slice Ao15 t774.length co15, .int .i64 t777] ?_;(with_reducible refine (Qcb.calls k _ _ t771 _ _ t774 t777 t783 t786 _ (uE HO773) ?side2 (uE HO776) ?side4 A7.out).mono ?_);(case side2=>exact (Kd.R_reads' HO773.out).2.1);(case side4=>exact (Kd.R_reads' HO776.out).2.1);rintro e w18 ⟨v784,rfl,ho0,hb⟩;refine ⟨_,rfl,?_⟩;have HO785:=Zk (Kd.R_lower (Kd.R_new' (Kd.R_new' (Kd.R_new' ho0 (Kd.R_lt (uR HO773))) (Kd.R_lt (uR HO776))) (Kd.R_lt (uR HO781))) (Qh (vB HB)));replace HO773:=Zk (Kd.R_elder' (uR HO773) (Kd.R_base ho0) hb);replace HO776:=Zk (Kd.R_elder' (uR HO776) (Kd.R_base ho0) hb);replace HO781:=Zk (Kd.R_elder' (uR HO781) (Kd.R_base ho0) hb);replace BK778:=Zk (Qd (uK BK778) hb);replace HB:=Zk (Qc (vB HB) hb);(try clear hb ho0);have hcz19_0:=bC BK778;have hfz19_0:=Qg BK778.out 0)|(refine gA (some 88) Try.func39 #[.agg #[.slice Ao13 t771.length co13], .slice Ao15 t774.length co15, .int .i64 t777] ?_;(with_reducible refine (Qcu.calls k _ _ t771 _ _ t774 t777 t787 t788 _ (uE HO773) ?side2 (uE HO776) ?side4 A8.out).mono ?_);(case side2=>exact (Kd.R_reads' HO773.out).2.1);(case side4=>exact (Kd.R_reads' HO776.out).2.1);rintro e w20 ⟨rfl,hb⟩;refine ⟨_,rfl,?_⟩;replace HO773:=Zk (Kd.R_below (uR HO773) hb);replace HO776:=Zk (Kd.R_below (uR HO776) hb);replace HO781:=Zk (Kd.R_below (uR HO781) hb);replace HO785:=Zk (Kd.R_below (uR HO785) hb);replace BK778:=Zk (Qd (uK BK778) hb);replace HB:=Zk (Qc (vB HB) hb);(try clear hb);have hcz21_0:=bC BK778;have hfz21_0:=Qg BK778.out 0)|(refine gA (some 95) Try.func40 #[.agg #[.slice Ao13 t771.length co13], .slice Ao15 t774.length co15, .int .i64 t777] ?_;(with_reducible refine (Qc6.calls k _ _ t771 _ _ t774 t777 t789 t790 _ (uE HO773) ?side2 (uE HO776) ?side4 A9.out).mono ?_);(case side2=>exact (Kd.R_reads' HO773.out).2.1);(case side4=>exact (Kd.R_reads' HO776.out).2.1);rintro e w22 ⟨rfl,hb⟩;refine ⟨_,rfl,?_⟩;replace HO773:=Zk (Kd.R_below (uR HO773) hb);replace HO776:=Zk (Kd.R_below (uR HO776) hb);replace HO781:=Zk (Kd.R_below (uR HO781) hb);replace HO785:=Zk (Kd.R_below (uR HO785) hb);replace BK778:=Zk (Qd (uK BK778) hb);replace HB:=Zk (Qc (vB HB) hb);(try clear hb)))
   (try simp only [Act.put,List.setIfInBounds_toArray,List.set_cons_zero,List.set_cons_succ])
   as_aux_lemma=>
    go_cut [121] (fun v121 wc=> ∃ (kq:Nat) (x121_9:Bool),v121= .bool x121_9∧Z0 (laws_FnArraysAreLayers.j0 kq l1 t774 t777 t779 t782 t787 x121_9 t771=some r)∧Z0 (kq≤k)∧Z0 (Kd.R (Kd.int .i64) 3 wc w.heap.size (fun k_=>some k_≠(v780:Value).ownBlock∧some k_≠((.slice Ao13 t771.length co13):Value).ownBlock) (.slice Ao15 t774.length co15) t774)∧Z0 (Kd.R (Kd.int .i64) 3 wc w.heap.size (fun k_=>some k_≠((.slice Ao15 t774.length co15):Value).ownBlock∧some k_≠((.slice Ao13 t771.length co13):Value).ownBlock) v780 t779)∧Z0 (Kd.R (Kd.int .i64) 3 wc w.heap.size (fun k_=>some k_≠((.slice Ao15 t774.length co15):Value).ownBlock∧some k_≠(v780:Value).ownBlock) (.slice Ao13 t771.length co13) t771)∧Z0 (wc.heap[gb778]? =some (.cells #[(.slice Ao13 t771.length co13)] 26 (0,0)))∧Z0 (Below w.heap.size w wc))
    case first=>as_aux_lemma=>
     have H:=HC10.out;clear HC10
     by_cases c23:(t782 !=t786)=true
     ·
      rw [if_pos c23] at H;have c23b0:(t782 !=t786)=true:=c23
      (try (have c23b1:decide (t782=t786)=false:=by simpa using c23))
      (try (have c23b2:(t782==t786)=false:=by simpa using c23))
      (try (have c23b3: ¬ (t782=t786):=by simpa using c23))
      clear c23
      (first|rw [c23b0] |(simp only [Qci,Qdb];rw [c23b0])|skip)
      have H':=Zk H;clear H;go_wp2
      go_meet
      case rel=>exact ⟨_,(true),(by first|rfl|(simp;done)|(simp [*];done)),H',⟨by first|omega|exact Nat.le_refl _⟩,⟨Kd.R_mono (uR HO776) (fun _ hk=>⟨hk.1.2,hk.1.1⟩)⟩,⟨Kd.R_mono (uR HO781) (fun _ hk=>⟨hk.1.2,hk.1.1.2⟩)⟩,⟨Kd.R_mono (uR HO773) (fun _ hk=>⟨hk.1.1,hk.1.2⟩)⟩,⟨uK BK778⟩,⟨(vB HB)⟩⟩
     ·
      rw [if_neg c23] at H;have c23b0:(t782 !=t786)=false:=by simpa using c23
      (try (have c23b1:decide (t782=t786)=true:=by simpa using c23))
      (try (have c23b2:(t782==t786)=true:=by simpa using c23))
      clear c23
      (first|rw [c23b0] |(simp only [Qci,Qdb];rw [c23b0])|skip)
      obtain ⟨t791,A24,H⟩:=bs H;(try dsimp only at H)
      by_cases c25:t791=true
      ·
       subst c25;rw [if_pos rfl] at H
       by_cases c26:(t788 !=t790)=true
       ·
        as_aux_lemma=>
        rw [if_pos c26] at H;have c26b0:(t788 !=t790)=true:=c26
        (try (have c26b1:decide (t788=t790)=false:=by simpa using c26))
        (try (have c26b2:(t788==t790)=false:=by simpa using c26))
        (try (have c26b3: ¬ (t788=t790):=by simpa using c26))
        clear c26;have H':=Zk H;clear H;obtain ⟨Ao27,co27,eo27⟩:=Kd.R_slice HO781.out;subst eo27;obtain ⟨Ao28,co28,eo28⟩:=Kd.R_slice HO785.out;subst eo28
        as_aux_lemma=>
         go_wp2_with (first|(go_at_call 12;(with_reducible refine (Qbu.calls k _ _ t779 _ _ t783 true _ (uE HO781) ?side2 (uE HO785) ?side4 A24.out).mono ?_);(case side2=>exact (Kd.R_reads' HO781.out).2.1);(case side4=>exact (Kd.R_reads' HO785.out).2.1);rintro e w' ⟨rfl,⟨nd,rfl⟩⟩))
         go_meet
         case rel=>exact ⟨_,(true),(by first|rfl|(simp;done)|(simp [*];done)),H',⟨by first|omega|exact Nat.le_refl _⟩,⟨Kd.R_mono (uR HO776) (fun _ hk=>⟨hk.1.2,hk.1.1⟩)⟩,⟨Kd.R_mono (uR HO781) (fun _ hk=>⟨hk.1.2,hk.1.1.2⟩)⟩,⟨Kd.R_mono (uR HO773) (fun _ hk=>⟨hk.1.1,hk.1.2⟩)⟩,⟨uK BK778⟩,⟨(vB HB)⟩⟩
       ·
        rw [if_neg c26] at H;have c26b0:(t788 !=t790)=false:=by simpa using c26
        (try (have c26b1:decide (t788=t790)=true:=by simpa using c26))
        (try (have c26b2:(t788==t790)=true:=by simpa using c26))
        clear c26
        by_cases c29:t787=t789
        ·
         rw [if_pos c29] at H;have c29b0:(t787==t789)=true:=beq_iff_eq.mpr c29;have c29b1:(t787 !=t789)=false:=bne_eq_false_iff_eq.mpr c29;clear c29;have H':=Zk H;clear H;obtain ⟨Ao30,co30,eo30⟩:=Kd.R_slice HO781.out;subst eo30;obtain ⟨Ao31,co31,eo31⟩:=Kd.R_slice HO785.out;subst eo31
         as_aux_lemma=>
          go_wp2_with (first|(go_at_call 12;(with_reducible refine (Qbu.calls k _ _ t779 _ _ t783 true _ (uE HO781) ?side2 (uE HO785) ?side4 A24.out).mono ?_);(case side2=>exact (Kd.R_reads' HO781.out).2.1);(case side4=>exact (Kd.R_reads' HO785.out).2.1);rintro e w' ⟨rfl,⟨nd,rfl⟩⟩))
          go_meet
          case rel=>exact ⟨_,((t788 !=t782)),(by first|rfl|(simp;done)|(simp [*];done)),H',⟨by first|omega|exact Nat.le_refl _⟩,⟨Kd.R_mono (uR HO776) (fun _ hk=>⟨hk.1.2,hk.1.1⟩)⟩,⟨Kd.R_mono (uR HO781) (fun _ hk=>⟨hk.1.2,hk.1.1.2⟩)⟩,⟨Kd.R_mono (uR HO773) (fun _ hk=>⟨hk.1.1,hk.1.2⟩)⟩,⟨uK BK778⟩,⟨(vB HB)⟩⟩
        ·
         rw [if_neg c29] at H;have c29b0:(t787==t789)=false:=beq_eq_false_iff_ne.mpr c29;have c29b1:(t787 !=t789)=true:=bne_iff_ne.mpr c29;have H':=Zk H;clear H;obtain ⟨Ao32,co32,eo32⟩:=Kd.R_slice HO781.out;subst eo32;obtain ⟨Ao33,co33,eo33⟩:=Kd.R_slice HO785.out;subst eo33
         as_aux_lemma=>
          go_wp2_with (first|(go_at_call 12;(with_reducible refine (Qbu.calls k _ _ t779 _ _ t783 true _ (uE HO781) ?side2 (uE HO785) ?side4 A24.out).mono ?_);(case side2=>exact (Kd.R_reads' HO781.out).2.1);(case side4=>exact (Kd.R_reads' HO785.out).2.1);rintro e w' ⟨rfl,⟨nd,rfl⟩⟩))
          go_meet
          case rel=>exact ⟨_,(true),(by first|rfl|(simp;done)|(simp [*];done)),H',⟨by first|omega|exact Nat.le_refl _⟩,⟨Kd.R_mono (uR HO776) (fun _ hk=>⟨hk.1.2,hk.1.1⟩)⟩,⟨Kd.R_mono (uR HO781) (fun _ hk=>⟨hk.1.2,hk.1.1.2⟩)⟩,⟨Kd.R_mono (uR HO773) (fun _ hk=>⟨hk.1.1,hk.1.2⟩)⟩,⟨uK BK778⟩,⟨(vB HB)⟩⟩
      ·
       replace c25:=Bool.eq_false_iff.mpr c25;subst c25;rw [if_neg (show ¬ (false=true) by decide)] at H;have H':=Zk H;clear H;obtain ⟨Ao34,co34,eo34⟩:=Kd.R_slice HO781.out;subst eo34;obtain ⟨Ao35,co35,eo35⟩:=Kd.R_slice HO785.out;subst eo35
       as_aux_lemma=>
        go_wp2_with (first|(go_at_call 12;(with_reducible refine (Qbu.calls k _ _ t779 _ _ t783 false _ (uE HO781) ?side2 (uE HO785) ?side4 A24.out).mono ?_);(case side2=>exact (Kd.R_reads' HO781.out).2.1);(case side4=>exact (Kd.R_reads' HO785.out).2.1);rintro e w' ⟨rfl,⟨nd,rfl⟩⟩))
        go_meet
        case rel=>exact ⟨_,(true),(by first|rfl|(simp;done)|(simp [*];done)),H',⟨by first|omega|exact Nat.le_refl _⟩,⟨Kd.R_mono (uR HO776) (fun _ hk=>⟨hk.1.2,hk.1.1⟩)⟩,⟨Kd.R_mono (uR HO781) (fun _ hk=>⟨hk.1.2,hk.1.1.2⟩)⟩,⟨Kd.R_mono (uR HO773) (fun _ hk=>⟨hk.1.1,hk.1.2⟩)⟩,⟨uK BK778⟩,⟨(vB HB)⟩⟩
    case rest=>as_aux_lemma=>
     clear HC10
     try clear hcz14_0 hcz17_0 hcz19_0 hcz21_0 hfz14_0 hfz17_0 hfz19_0 hfz21_0
     obtain ⟨kq,x121_9,rfl,HA,HJ9,HO_6,HO_8,HO_779000,BK778,HB⟩:=hcut;cases kq with
     |zero=>exact absurd HA.out (by simp [laws_FnArraysAreLayers.j0])
     |succ kj9=>
      have H:=HA.out;clear HA;simp only [laws_FnArraysAreLayers.j0] at H
      by_cases c36:x121_9=true
      ·
       subst c36;rw [if_pos rfl] at H;exact absurd H (by simp)
      ·
       replace c36:=Bool.eq_false_iff.mpr c36;subst c36;rw [if_neg (show ¬ (false=true) by decide)] at H;have HC37:=Zk H;clear H
       as_aux_lemma=>
        go_upto_if 122 with (fail)
        go_cut [] (fun wc=> ∃ (kq:Nat),Z0 (laws_FnArraysAreLayers.j1 kq l1=some r)∧Z0 (kq≤kj9)∧Z0 (Kd.R (Kd.int .i64) 3 wc w.heap.size (fun _=>True) (.slice Ao13 t771.length co13) t771)∧Z0 (wc.heap[gb778]? =some (.cells #[(.slice Ao13 t771.length co13)] 26 (0,0)))∧Z0 (Below w.heap.size w wc))
        case first=>as_aux_lemma=>
         have H:=HC37.out;clear HC37
         by_cases c38:t782=true
         ·
          subst c38;rw [if_pos rfl] at H;obtain ⟨⟨t792,t795⟩,A39,H⟩:=bs H;(try dsimp only at H)
          by_cases c40:t795=true
          ·
           subst c40;rw [if_pos rfl] at H;obtain ⟨t796,A41,H⟩:=bs H;(try dsimp only at H)
           by_cases c42:t796=true
           ·
            subst c42;rw [if_pos rfl] at H
            by_cases c43:(t779.length:Int)=t777
            ·
             rw [if_pos c43] at H;have c43b0:((t779.length:Int)==t777)=true:=beq_iff_eq.mpr c43;have c43b1:((t779.length:Int) !=t777)=false:=bne_eq_false_iff_eq.mpr c43;clear c43
             (first|rw [c43b0] |(simp only [Qci,Qdb];rw [c43b0])|skip)
             obtain ⟨t797,A44,H⟩:=bs H;(try dsimp only at H)
             by_cases c45:t797=true
             ·
              as_aux_lemma=>
              subst c45;rw [if_pos rfl] at H;have H':=Zk H;clear H;have hcz46_0:=bC BK778;have hfz46_0:=Qg BK778.out 0;obtain ⟨Ao47,co47,eo47⟩:=Kd.R_slice HO_8.out;subst eo47
              as_aux_lemma=>
               go_wp2_with (first|((with_reducible refine gt ?_);refine gA (some 126) Try.func41 #[.agg #[.slice Ao13 t771.length co13], .slice Ao47 t779.length co47] ?_;(with_reducible refine (Qcy.calls kj9 _ _ t771 _ _ t779 t792 true _ (uE HO_779000) ?side2 (uE HO_8) ?side4 A39.out).mono ?_);(case side2=>exact (Kd.R_reads' HO_779000.out).2.1);(case side4=>exact (Kd.R_reads' HO_8.out).2.1);rintro e w48 ⟨v793,rfl,ho0,hb⟩;refine ⟨_,rfl,?_⟩;have HO794:=Zk (Kd.R_lower (Kd.R_new' (Kd.R_new' (Kd.R_new' ho0 (Kd.R_lt (uR HO_6))) (Kd.R_lt (uR HO_8))) (Kd.R_lt (uR HO_779000))) (Qh (vB HB)));replace HO_6:=Zk (Kd.R_elder' (uR HO_6) (Kd.R_base ho0) hb);replace HO_8:=Zk (Kd.R_elder' (uR HO_8) (Kd.R_base ho0) hb);replace HO_779000:=Zk (Kd.R_elder' (uR HO_779000) (Kd.R_base ho0) hb);replace BK778:=Zk (Qd (uK BK778) hb);replace HB:=Zk (Qc (vB HB) hb);(try clear hb ho0);obtain ⟨Ao49,co49,eo49⟩:=Kd.R_slice HO794.out;subst eo49)|(go_at_call 12;(with_reducible refine (Qbu.calls kj9 _ _ t792 _ _ t774 true _ (uE HO794) ?side2 (uE HO_6) ?side4 A41.out).mono ?_);(case side2=>exact (Kd.R_reads' HO794.out).2.1);(case side4=>exact (Kd.R_reads' HO_6.out).2.1);rintro e w' ⟨rfl,⟨nd,rfl⟩⟩;have hcz50_0:=bC BK778;have hfz50_0:=Qg BK778.out 0)|(go_at_call 42;(with_reducible refine (Qd5.calls kj9 _ _ t771 t787 true _ (uE HO_779000) ?side2 A44.out).mono ?_);(case side2=>exact (Kd.R_reads' HO_779000.out).2.1);rintro e w51 ⟨rfl,hb⟩;replace HO_6:=Zk (Kd.R_below (uR HO_6) hb);replace HO_8:=Zk (Kd.R_below (uR HO_8) hb);replace HO_779000:=Zk (Kd.R_below (uR HO_779000) hb);replace HO794:=Zk (Kd.R_below (uR HO794) hb);replace BK778:=Zk (Qd (uK BK778) hb);replace HB:=Zk (Qc (vB HB) hb);(try clear hb)))
               go_meet
               case rel=>exact ⟨_,H',⟨by have:=HJ9.out;first|omega|exact Nat.le_refl _⟩,⟨Kd.R_mono (uR HO_779000) (fun _ hk=>trivial)⟩,⟨uK BK778⟩,⟨(vB HB)⟩⟩
             ·
              replace c45:=Bool.eq_false_iff.mpr c45;subst c45;rw [if_neg (show ¬ (false=true) by decide)] at H;exact absurd H (by simp)
            ·
             rw [if_neg c43] at H;exact absurd H (by simp)
           ·
            replace c42:=Bool.eq_false_iff.mpr c42;subst c42;rw [if_neg (show ¬ (false=true) by decide)] at H;exact absurd H (by simp)
          ·
           replace c40:=Bool.eq_false_iff.mpr c40;subst c40;rw [if_neg (show ¬ (false=true) by decide)] at H;exact absurd H (by simp)
         ·
          replace c38:=Bool.eq_false_iff.mpr c38;subst c38;rw [if_neg (show ¬ (false=true) by decide)] at H;have H':=Zk H;clear H;go_wp2
          go_meet
          case rel=>exact ⟨_,H',⟨by have:=HJ9.out;first|omega|exact Nat.le_refl _⟩,⟨Kd.R_mono (uR HO_779000) (fun _ hk=>trivial)⟩,⟨uK BK778⟩,⟨(vB HB)⟩⟩
        case rest=>as_aux_lemma=>
         clear HC37
         skip
         obtain ⟨kq,HA,HJ36,HO_779000,BK778,HB⟩:=hcut;cases kq with
         |zero=>exact absurd HA.out (by simp [laws_FnArraysAreLayers.j1])
         |succ kj36=>
          have H:=HA.out;clear HA;simp only [laws_FnArraysAreLayers.j1] at H;obtain ⟨⟨t798,t801⟩,A52,H⟩:=bs H;(try dsimp only at H)
          obtain ⟨⟨t805,t808⟩,A53,H⟩:=bs H;(try dsimp only at H)
          obtain ⟨⟨t809,t812⟩,A54,H⟩:=bs H;(try dsimp only at H)
          have HC55:=Zk H;clear H
          as_aux_lemma=>
           go_upto_region 17 with ((with_reducible refine gt ?_);first|(refine gA (some 151) Try.func43 #[.slice A1 l1.length c1] ?_;(with_reducible refine (Qn.calls kj36 _ _ l1 t798 t801 _ (uD HR1 HB) HC1.out A52.out).mono ?_);rintro e w56 ⟨v799,v802,rfl,ho0,ho1,hb⟩;refine ⟨_,rfl,?_⟩;have HO800:=Zk (Kd.R_lower (Kd.R_new' ho0 (Kd.R_lt (uR HO_779000))) (Qh (vB HB)));have HO803:=Zk (Kd.R_lower (Kd.R_new' ho1 (Kd.R_lt (uR HO_779000))) (Qh (vB HB)));replace HO_779000:=Zk (Kd.R_mono (Kd.R_told (Kd.R_told (Kd.R_old (uR HO_779000) hb) (Kd.R_base ho0)) (Kd.R_base ho1)) (fun _ h_=>h_.1));replace BK778:=Zk (Qd (uK BK778) hb);replace HB:=Zk (Qc (vB HB) hb);(try clear hb ho0 ho1))|((with_reducible refine Qb2 (N:=18) rfl ?_);(try (refine Qcx (by rfl) ?_;dsimp only));refine bE (N:=18) (cs:= #[.slice none 0 0]) (t:=26) ?_;intro gb804 hg w57 hbox hb;replace HO_779000:=Zk (Kd.R_below (uR HO_779000) hb);replace HO800:=Zk (Kd.R_below (uR HO800) hb);replace HO803:=Zk (Kd.R_below (uR HO803) hb);have BK804:=Zk (hbox);have GW804:=Zk ((by rw [hg];exact (Qh (vB HB)):w.heap.size≤gb804));have GE804:=GW804;replace HB:=Zk (Qc (vB HB) hb);have NB778_804:=Zk ((by rw [hg];exact Nat.ne_of_lt (Qb9 (uK BK778)):gb778≠gb804));have NB804_778:=Zk ((by rw [hg];exact Nat.ne_of_gt (Qb9 (uK BK778)):gb804≠gb778));replace BK778:=Zk (Qd (uK BK778) hb);clear hb hbox hg;obtain ⟨Ao58,co58,eo58⟩:=Kd.R_slice HO800.out;subst eo58;have hnb59:=NB804_778.out;have hnc59:=NB778_804.out;have hcz60_0:=bC BK804;have hfz60_0:=Qg BK804.out 0;obtain ⟨Ao61,co61,eo61⟩:=Kd.R_slice HO803.out;subst eo61)|(refine gA (some 157) Try.func41 #[.agg #[.slice Ao58 t798.length co58], .slice Ao61 t801.length co61] ?_;(with_reducible refine (Qcy.calls kj36 _ _ t798 _ _ t801 t805 t808 _ ?side1 ?side2 ?side3 ?side4 A53.out).mono ?_);(case side1=>refine (Kd.R_reads' (e:=3) (base:=w.heap.size) (ok:=fun k_=>(some k_≠(.slice Ao61 t801.length co61:Value).ownBlock∧some k_≠(.slice Ao13 t771.length co13:Value).ownBlock)) (n:=t798.length) (c:=co58) ?_).2.2;exact (rF HO800 BK804 (.slice Ao58 t798.length co58)));(case side2=>exact (Kd.R_reads' HO800.out).2.1);(case side3=>refine (Kd.R_reads' (e:=3) (base:=w.heap.size) (ok:=fun k_=>(some k_≠(.slice Ao58 t798.length co58:Value).ownBlock∧some k_≠(.slice Ao13 t771.length co13:Value).ownBlock)) (n:=t801.length) (c:=co61) ?_).2.2;exact (rF HO803 BK804 (.slice Ao58 t798.length co58)));(case side4=>exact (Kd.R_reads' HO803.out).2.1);rintro e w62 ⟨v806,rfl,ho0,hb⟩;refine ⟨_,rfl,?_⟩;have HO807:=Zk (Kd.R_lower (Kd.R_new' (Kd.R_new' (Kd.R_new' ho0 (Kd.R_lt (rF HO_779000 BK804 (.slice Ao58 t798.length co58)))) (Kd.R_lt (rF HO800 BK804 (.slice Ao58 t798.length co58)))) (Kd.R_lt (rF HO803 BK804 (.slice Ao58 t798.length co58)))) (Qh (vB HB)));replace HO_779000:=Zk (Kd.R_elder' (rF HO_779000 BK804 (.slice Ao58 t798.length co58)) (Kd.R_base ho0) hb);replace HO800:=Zk (Kd.R_elder' (rF HO800 BK804 (.slice Ao58 t798.length co58)) (Kd.R_base ho0) hb);replace HO803:=Zk (Kd.R_elder' (rF HO803 BK804 (.slice Ao58 t798.length co58)) (Kd.R_base ho0) hb);replace BK778:=Zk (Qd (g:=gb778) (o:= .cells #[.slice Ao13 t771.length co13] 26 (0,0)) kF hb);replace BK804:=Zk (Qd (g:=gb804) (o:= .cells #[.slice Ao58 t798.length co58] 26 (0,0)) bP hb);replace HB:=Zk (Qc (vB HB) hb);(try clear hb ho0);have hcz63_0:=bC BK804;have hfz63_0:=Qg BK804.out 0)|(refine gA (some 163) Try.func44 #[.agg #[.slice Ao58 t798.length co58], .slice Ao61 t801.length co61] ?_;(with_reducible refine (Qo.calls kj36 _ _ t798 _ _ t801 t809 t812 _ (uE HO800) ?side2 (uE HO803) ?side4 A54.out).mono ?_);(case side2=>exact (Kd.R_reads' HO800.out).2.1);(case side4=>exact (Kd.R_reads' HO803.out).2.1);rintro e w64 ⟨v810,rfl,ho0,hb⟩;refine ⟨_,rfl,?_⟩;have HO811:=Zk (Kd.R_lower (Kd.R_new' (Kd.R_new' (Kd.R_new' (Kd.R_new' ho0 (Kd.R_lt (uR HO_779000))) (Kd.R_lt (uR HO800))) (Kd.R_lt (uR HO803))) (Kd.R_lt (uR HO807))) (Qh (vB HB)));replace HO_779000:=Zk (Kd.R_elder' (uR HO_779000) (Kd.R_base ho0) hb);replace HO800:=Zk (Kd.R_elder' (uR HO800) (Kd.R_base ho0) hb);replace HO803:=Zk (Kd.R_elder' (uR HO803) (Kd.R_base ho0) hb);replace HO807:=Zk (Kd.R_elder' (uR HO807) (Kd.R_base ho0) hb);replace BK778:=Zk (Qd (uK BK778) hb);replace BK804:=Zk (Qd (uK BK804) hb);replace HB:=Zk (Qc (vB HB) hb);(try clear hb ho0)))
           (try simp only [Act.put,List.setIfInBounds_toArray,List.set_cons_zero,List.set_cons_succ])
           as_aux_lemma=>
            go_cut [174] (fun v174 wc=> ∃ (kq:Nat) (x174_54:Bool),v174= .bool x174_54∧Z0 (laws_FnArraysAreLayers.j2 kq l1 t801 t805 t808 x174_54 t798=some r)∧Z0 (kq≤kj36)∧Z0 (Kd.R (Kd.int .i64) 3 wc w.heap.size (fun k_=>some k_≠(v806:Value).ownBlock∧some k_≠((.slice Ao13 t771.length co13):Value).ownBlock∧some k_≠((.slice Ao58 t798.length co58):Value).ownBlock) (.slice Ao61 t801.length co61) t801)∧Z0 (Kd.R (Kd.int .i64) 3 wc w.heap.size (fun k_=>some k_≠((.slice Ao61 t801.length co61):Value).ownBlock∧some k_≠((.slice Ao13 t771.length co13):Value).ownBlock∧some k_≠((.slice Ao58 t798.length co58):Value).ownBlock) v806 t805)∧Z0 (Kd.R (Kd.int .i64) 3 wc w.heap.size (fun k_=>some k_≠((.slice Ao61 t801.length co61):Value).ownBlock∧some k_≠(v806:Value).ownBlock∧some k_≠((.slice Ao58 t798.length co58):Value).ownBlock) (.slice Ao13 t771.length co13) t771)∧Z0 (Kd.R (Kd.int .i64) 3 wc w.heap.size (fun k_=>some k_≠((.slice Ao61 t801.length co61):Value).ownBlock∧some k_≠(v806:Value).ownBlock∧some k_≠((.slice Ao13 t771.length co13):Value).ownBlock) (.slice Ao58 t798.length co58) t798)∧Z0 (wc.heap[gb778]? =some (.cells #[(.slice Ao13 t771.length co13)] 26 (0,0)))∧Z0 (wc.heap[gb804]? =some (.cells #[(.slice Ao58 t798.length co58)] 26 (0,0)))∧Z0 (Below w.heap.size w wc))
            case first=>as_aux_lemma=>
             have H:=HC55.out;clear HC55
             by_cases c65:(t808 !=t812)=true
             ·
              rw [if_pos c65] at H;have c65b0:(t808 !=t812)=true:=c65
              (try (have c65b1:decide (t808=t812)=false:=by simpa using c65))
              (try (have c65b2:(t808==t812)=false:=by simpa using c65))
              (try (have c65b3: ¬ (t808=t812):=by simpa using c65))
              clear c65
              (first|rw [c65b0] |(simp only [Qci,Qdb];rw [c65b0])|skip)
              have H':=Zk H;clear H;go_wp2
              go_meet
              case rel=>exact ⟨_,(true),(by first|rfl|(simp;done)|(simp [*];done)),H',⟨by have:=HJ9.out;have:=HJ36.out;first|omega|exact Nat.le_refl _⟩,⟨Kd.R_mono (uR HO803) (fun _ hk=>⟨hk.1.2,⟨hk.1.1.2,hk.1.1.1⟩⟩)⟩,⟨Kd.R_mono (uR HO807) (fun _ hk=>⟨hk.1.2,⟨hk.1.1.1.2,hk.1.1.2⟩⟩)⟩,⟨Kd.R_mono (uR HO_779000) (fun _ hk=>⟨hk.1.1.2,⟨hk.1.2,hk.1.1.1.2⟩⟩)⟩,⟨Kd.R_mono (uR HO800) (fun _ hk=>⟨hk.1.1.1,⟨hk.1.2,hk.1.1.2⟩⟩)⟩,⟨uK BK778⟩,⟨uK BK804⟩,⟨(vB HB)⟩⟩
             ·
              rw [if_neg c65] at H;have c65b0:(t808 !=t812)=false:=by simpa using c65
              (try (have c65b1:decide (t808=t812)=true:=by simpa using c65))
              (try (have c65b2:(t808==t812)=true:=by simpa using c65))
              clear c65
              (first|rw [c65b0] |(simp only [Qci,Qdb];rw [c65b0])|skip)
              obtain ⟨t813,A66,H⟩:=bs H;(try dsimp only at H)
              have H':=Zk H;clear H;obtain ⟨Ao67,co67,eo67⟩:=Kd.R_slice HO807.out;subst eo67;obtain ⟨Ao68,co68,eo68⟩:=Kd.R_slice HO811.out;subst eo68
              as_aux_lemma=>
               go_wp2_with (first|(go_at_call 12;(with_reducible refine (Qbu.calls kj36 _ _ t805 _ _ t809 t813 _ (uE HO807) ?side2 (uE HO811) ?side4 A66.out).mono ?_);(case side2=>exact (Kd.R_reads' HO807.out).2.1);(case side4=>exact (Kd.R_reads' HO811.out).2.1);rintro e w' ⟨rfl,⟨nd,rfl⟩⟩))
               go_meet
               case rel=>exact ⟨_,(!t813),(by first|rfl|(simp;done)|(simp [*];done)),H',⟨by have:=HJ9.out;have:=HJ36.out;first|omega|exact Nat.le_refl _⟩,⟨Kd.R_mono (uR HO803) (fun _ hk=>⟨hk.1.2,⟨hk.1.1.2,hk.1.1.1⟩⟩)⟩,⟨Kd.R_mono (uR HO807) (fun _ hk=>⟨hk.1.2,⟨hk.1.1.1.2,hk.1.1.2⟩⟩)⟩,⟨Kd.R_mono (uR HO_779000) (fun _ hk=>⟨hk.1.1.2,⟨hk.1.2,hk.1.1.1.2⟩⟩)⟩,⟨Kd.R_mono (uR HO800) (fun _ hk=>⟨hk.1.1.1,⟨hk.1.2,hk.1.1.2⟩⟩)⟩,⟨uK BK778⟩,⟨uK BK804⟩,⟨(vB HB)⟩⟩
            case rest=>as_aux_lemma=>
             clear HC55
             try clear hcz60_0 hcz63_0 hfz60_0 hfz63_0
             obtain ⟨kq,x174_54,rfl,HA,HJ54,HO_19,HO_20,HO_779000,HO_805000,BK778,BK804,HB⟩:=hcut;cases kq with
             |zero=>exact absurd HA.out (by simp [laws_FnArraysAreLayers.j2])
             |succ kj54=>
              have H:=HA.out;clear HA;simp only [laws_FnArraysAreLayers.j2] at H
              by_cases c69:x174_54=true
              ·
               subst c69;rw [if_pos rfl] at H;exact absurd H (by simp)
              ·
               replace c69:=Bool.eq_false_iff.mpr c69;subst c69;rw [if_neg (show ¬ (false=true) by decide)] at H;have HC70:=Zk H;clear H
               as_aux_lemma=>
                go_upto_if 175 with (fail)
                go_cut [] (fun wc=> ∃ (kq:Nat),Z0 (laws_FnArraysAreLayers.j3 kq l1=some r)∧Z0 (kq≤kj54)∧Z0 (Kd.R (Kd.int .i64) 3 wc w.heap.size (fun k_=>some k_≠((.slice Ao58 t798.length co58):Value).ownBlock) (.slice Ao13 t771.length co13) t771)∧Z0 (Kd.R (Kd.int .i64) 3 wc w.heap.size (fun k_=>some k_≠((.slice Ao13 t771.length co13):Value).ownBlock) (.slice Ao58 t798.length co58) t798)∧Z0 (wc.heap[gb778]? =some (.cells #[(.slice Ao13 t771.length co13)] 26 (0,0)))∧Z0 (wc.heap[gb804]? =some (.cells #[(.slice Ao58 t798.length co58)] 26 (0,0)))∧Z0 (Below w.heap.size w wc))
                case first=>as_aux_lemma=>
                 have H:=HC70.out;clear HC70
                 by_cases c71:t808=true
                 ·
                  subst c71;rw [if_pos rfl] at H;obtain ⟨⟨t814,t817⟩,A72,H⟩:=bs H;(try dsimp only at H)
                  by_cases c73:t817=true
                  ·
                   subst c73;rw [if_pos rfl] at H;obtain ⟨t818,A74,H⟩:=bs H;(try dsimp only at H)
                   by_cases c75:t818=true
                   ·
                    subst c75;rw [if_pos rfl] at H;have H':=Zk H;clear H;have hnb76:=NB804_778.out;have hnc76:=NB778_804.out;have hcz77_0:=bC BK804;have hfz77_0:=Qg BK804.out 0;obtain ⟨Ao78,co78,eo78⟩:=Kd.R_slice HO_20.out;subst eo78
                    as_aux_lemma=>
                     go_wp2_with (first|((with_reducible refine gt ?_);refine gA (some 181) Try.func37 #[.agg #[.slice Ao58 t798.length co58], .slice Ao78 t805.length co78, .int .i64 (t801.length:Int)] ?_;(with_reducible refine (Qc4.calls kj54 _ _ t798 _ _ t805 (t801.length:Int) t814 true _ (uE HO_805000) ?side2 (uE HO_20) ?side4 A72.out).mono ?_);(case side2=>exact (Kd.R_reads' HO_805000.out).2.1);(case side4=>exact (Kd.R_reads' HO_20.out).2.1);rintro e w79 ⟨v815,rfl,ho0,hb⟩;refine ⟨_,rfl,?_⟩;have HO816:=Zk (Kd.R_lower (Kd.R_new' (Kd.R_new' (Kd.R_new' (Kd.R_new' ho0 (Kd.R_lt (uR HO_19))) (Kd.R_lt (uR HO_20))) (Kd.R_lt (uR HO_779000))) (Kd.R_lt (uR HO_805000))) (Qh (vB HB)));replace HO_19:=Zk (Kd.R_elder' (uR HO_19) (Kd.R_base ho0) hb);replace HO_20:=Zk (Kd.R_elder' (uR HO_20) (Kd.R_base ho0) hb);replace HO_779000:=Zk (Kd.R_elder' (uR HO_779000) (Kd.R_base ho0) hb);replace HO_805000:=Zk (Kd.R_elder' (uR HO_805000) (Kd.R_base ho0) hb);replace BK778:=Zk (Qd (uK BK778) hb);replace BK804:=Zk (Qd (uK BK804) hb);replace HB:=Zk (Qc (vB HB) hb);(try clear hb ho0);obtain ⟨Ao80,co80,eo80⟩:=Kd.R_slice HO816.out;subst eo80)|(go_at_call 12;(with_reducible refine (Qbu.calls kj54 _ _ t814 _ _ t801 true _ (uE HO816) ?side2 (uE HO_19) ?side4 A74.out).mono ?_);(case side2=>exact (Kd.R_reads' HO816.out).2.1);(case side4=>exact (Kd.R_reads' HO_19.out).2.1);rintro e w' ⟨rfl,⟨nd,rfl⟩⟩))
                     go_meet
                     case rel=>exact ⟨_,H',⟨by have:=HJ9.out;have:=HJ36.out;have:=HJ54.out;first|omega|exact Nat.le_refl _⟩,⟨Kd.R_mono (uR HO_779000) (fun _ hk=>hk.1.2.2)⟩,⟨Kd.R_mono (uR HO_805000) (fun _ hk=>hk.1.2.2)⟩,⟨uK BK778⟩,⟨uK BK804⟩,⟨(vB HB)⟩⟩
                   ·
                    replace c75:=Bool.eq_false_iff.mpr c75;subst c75;rw [if_neg (show ¬ (false=true) by decide)] at H;exact absurd H (by simp)
                  ·
                   replace c73:=Bool.eq_false_iff.mpr c73;subst c73;rw [if_neg (show ¬ (false=true) by decide)] at H;exact absurd H (by simp)
                 ·
                  replace c71:=Bool.eq_false_iff.mpr c71;subst c71;rw [if_neg (show ¬ (false=true) by decide)] at H;have H':=Zk H;clear H;go_wp2
                  go_meet
                  case rel=>exact ⟨_,H',⟨by have:=HJ9.out;have:=HJ36.out;have:=HJ54.out;first|omega|exact Nat.le_refl _⟩,⟨Kd.R_mono (uR HO_779000) (fun _ hk=>hk.2.2)⟩,⟨Kd.R_mono (uR HO_805000) (fun _ hk=>hk.2.2)⟩,⟨uK BK778⟩,⟨uK BK804⟩,⟨(vB HB)⟩⟩
                case rest=>as_aux_lemma=>
                 clear HC70
                 skip
                 obtain ⟨kq,HA,HJ69,HO_779000,HO_805000,BK778,BK804,HB⟩:=hcut;cases kq with
                 |zero=>exact absurd HA.out (by simp [laws_FnArraysAreLayers.j3])
                 |succ kj69=>
                  have H:=HA.out;clear HA;simp only [laws_FnArraysAreLayers.j3] at H;obtain ⟨⟨t819,t822,t823⟩,A81,H⟩:=bs H;(try dsimp only at H)
                  obtain ⟨⟨t825,t828⟩,A82,H⟩:=bs H;(try dsimp only at H)
                  obtain ⟨⟨t829,t832⟩,A83,H⟩:=bs H;(try dsimp only at H)
                  have HC84:=Zk H;clear H
                  as_aux_lemma=>
                   go_upto_region 26 with ((with_reducible refine gt ?_);first|(refine gA (some 194) Try.func45 #[.slice A1 l1.length c1] ?_;(with_reducible refine (Qb5.calls kj69 _ _ l1 t819 t822 t823 _ (uD HR1 HB) HC1.out A81.out).mono ?_);rintro e w85 ⟨v820,rfl,ho0,hb⟩;refine ⟨_,rfl,?_⟩;have HO821:=Zk (Kd.R_lower (Kd.R_new' (Kd.R_new' ho0 (Kd.R_lt (uR HO_779000))) (Kd.R_lt (uR HO_805000))) (Qh (vB HB)));replace HO_779000:=Zk (Kd.R_elder' (uR HO_779000) (Kd.R_base ho0) hb);replace HO_805000:=Zk (Kd.R_elder' (uR HO_805000) (Kd.R_base ho0) hb);replace BK778:=Zk (Qd (uK BK778) hb);replace BK804:=Zk (Qd (uK BK804) hb);replace HB:=Zk (Qc (vB HB) hb);(try clear hb ho0))|((with_reducible refine Qb2 (N:=26) rfl ?_);(try (refine Qcx (by rfl) ?_;dsimp only));refine bE (N:=26) (cs:= #[.slice none 0 0]) (t:=26) ?_;intro gb824 hg w86 hbox hb;replace HO_779000:=Zk (Kd.R_below (uR HO_779000) hb);replace HO_805000:=Zk (Kd.R_below (uR HO_805000) hb);replace HO821:=Zk (Kd.R_below (uR HO821) hb);have BK824:=Zk (hbox);have GW824:=Zk ((by rw [hg];exact (Qh (vB HB)):w.heap.size≤gb824));have GE824:=GW824;replace HB:=Zk (Qc (vB HB) hb);have NB778_824:=Zk ((by rw [hg];exact Nat.ne_of_lt (Qb9 (uK BK778)):gb778≠gb824));have NB824_778:=Zk ((by rw [hg];exact Nat.ne_of_gt (Qb9 (uK BK778)):gb824≠gb778));replace BK778:=Zk (Qd (uK BK778) hb);have NB804_824:=Zk ((by rw [hg];exact Nat.ne_of_lt (Qb9 (uK BK804)):gb804≠gb824));have NB824_804:=Zk ((by rw [hg];exact Nat.ne_of_gt (Qb9 (uK BK804)):gb824≠gb804));replace BK804:=Zk (Qd (uK BK804) hb);clear hb hbox hg;obtain ⟨Ao87,co87,eo87⟩:=Kd.R_slice HO821.out;subst eo87;have hnb88:=NB824_778.out;have hnc88:=NB778_824.out;have hnb89:=NB824_804.out;have hnc89:=NB804_824.out;have hcz90_0:=bC BK824;have hfz90_0:=Qg BK824.out 0)|(refine gA (some 202) Try.func46 #[.agg #[.slice Ao87 t819.length co87], .int .i64 t822, .int .i64 t823] ?_;(with_reducible refine (Qv.calls kj69 _ _ t819 t822 t823 t825 t828 _ ?side1 ?side2 A82.out).mono ?_);(case side1=>refine (Kd.R_reads' (e:=3) (base:=w.heap.size) (ok:=fun k_=>((True∧some k_≠(.slice Ao13 t771.length co13:Value).ownBlock)∧some k_≠(.slice Ao58 t798.length co58:Value).ownBlock)) (n:=t819.length) (c:=co87) ?_).2.2;exact (rF HO821 BK824 (.slice Ao87 t819.length co87)));(case side2=>exact (Kd.R_reads' HO821.out).2.1);rintro e w91 ⟨v826,rfl,ho0,hb⟩;refine ⟨_,rfl,?_⟩;have HO827:=Zk (Kd.R_lower (Kd.R_new' (Kd.R_new' (Kd.R_new' ho0 (Kd.R_lt (rF HO_779000 BK824 (.slice Ao87 t819.length co87)))) (Kd.R_lt (rF HO_805000 BK824 (.slice Ao87 t819.length co87)))) (Kd.R_lt (rF HO821 BK824 (.slice Ao87 t819.length co87)))) (Qh (vB HB)));replace HO_779000:=Zk (Kd.R_elder' (rF HO_779000 BK824 (.slice Ao87 t819.length co87)) (Kd.R_base ho0) hb);replace HO_805000:=Zk (Kd.R_elder' (rF HO_805000 BK824 (.slice Ao87 t819.length co87)) (Kd.R_base ho0) hb);replace HO821:=Zk (Kd.R_elder' (rF HO821 BK824 (.slice Ao87 t819.length co87)) (Kd.R_base ho0) hb);replace BK778:=Zk (Qd (g:=gb778) (o:= .cells #[.slice Ao13 t771.length co13] 26 (0,0)) kF hb);replace BK804:=Zk (Qd (g:=gb804) (o:= .cells #[.slice Ao58 t798.length co58] 26 (0,0)) kF hb);replace BK824:=Zk (Qd (g:=gb824) (o:= .cells #[.slice Ao87 t819.length co87] 26 (0,0)) bP hb);replace HB:=Zk (Qc (vB HB) hb);(try clear hb ho0);have hcz92_0:=bC BK824;have hfz92_0:=Qg BK824.out 0)|(refine gA (some 209) Try.func47 #[.agg #[.slice Ao87 t819.length co87], .int .i64 t822, .int .i64 t823] ?_;(with_reducible refine (Qba.calls kj69 _ _ t819 t822 t823 t829 t832 _ (uE HO821) ?side2 A83.out).mono ?_);(case side2=>exact (Kd.R_reads' HO821.out).2.1);rintro e w93 ⟨v830,rfl,ho0,hb⟩;refine ⟨_,rfl,?_⟩;have HO831:=Zk (Kd.R_lower (Kd.R_new' (Kd.R_new' (Kd.R_new' (Kd.R_new' ho0 (Kd.R_lt (uR HO_779000))) (Kd.R_lt (uR HO_805000))) (Kd.R_lt (uR HO821))) (Kd.R_lt (uR HO827))) (Qh (vB HB)));replace HO_779000:=Zk (Kd.R_elder' (uR HO_779000) (Kd.R_base ho0) hb);replace HO_805000:=Zk (Kd.R_elder' (uR HO_805000) (Kd.R_base ho0) hb);replace HO821:=Zk (Kd.R_elder' (uR HO821) (Kd.R_base ho0) hb);replace HO827:=Zk (Kd.R_elder' (uR HO827) (Kd.R_base ho0) hb);replace BK778:=Zk (Qd (uK BK778) hb);replace BK804:=Zk (Qd (uK BK804) hb);replace BK824:=Zk (Qd (uK BK824) hb);replace HB:=Zk (Qc (vB HB) hb);(try clear hb ho0)))
                   (try simp only [Act.put,List.setIfInBounds_toArray,List.set_cons_zero,List.set_cons_succ])
                   as_aux_lemma=>
                    go_cut [220] (fun v220 wc=> ∃ (kq:Nat) (x220_83:Bool),v220= .bool x220_83∧Z0 (laws_FnArraysAreLayers.j4 kq l1 t822 t823 t825 t828 x220_83 t819=some r)∧Z0 (kq≤kj69)∧Z0 (Kd.R (Kd.int .i64) 3 wc w.heap.size (fun k_=>some k_≠((.slice Ao13 t771.length co13):Value).ownBlock∧some k_≠((.slice Ao58 t798.length co58):Value).ownBlock∧some k_≠((.slice Ao87 t819.length co87):Value).ownBlock) v826 t825)∧Z0 (Kd.R (Kd.int .i64) 3 wc w.heap.size (fun k_=>some k_≠(v826:Value).ownBlock∧some k_≠((.slice Ao58 t798.length co58):Value).ownBlock∧some k_≠((.slice Ao87 t819.length co87):Value).ownBlock) (.slice Ao13 t771.length co13) t771)∧Z0 (Kd.R (Kd.int .i64) 3 wc w.heap.size (fun k_=>some k_≠(v826:Value).ownBlock∧some k_≠((.slice Ao13 t771.length co13):Value).ownBlock∧some k_≠((.slice Ao87 t819.length co87):Value).ownBlock) (.slice Ao58 t798.length co58) t798)∧Z0 (Kd.R (Kd.int .i64) 3 wc w.heap.size (fun k_=>some k_≠(v826:Value).ownBlock∧some k_≠((.slice Ao13 t771.length co13):Value).ownBlock∧some k_≠((.slice Ao58 t798.length co58):Value).ownBlock) (.slice Ao87 t819.length co87) t819)∧Z0 (wc.heap[gb778]? =some (.cells #[(.slice Ao13 t771.length co13)] 26 (0,0)))∧Z0 (wc.heap[gb804]? =some (.cells #[(.slice Ao58 t798.length co58)] 26 (0,0)))∧Z0 (wc.heap[gb824]? =some (.cells #[(.slice Ao87 t819.length co87)] 26 (0,0)))∧Z0 (Below w.heap.size w wc))
                    case first=>as_aux_lemma=>
                     have H:=HC84.out;clear HC84
                     by_cases c94:(t828 !=t832)=true
                     ·
                      rw [if_pos c94] at H;have c94b0:(t828 !=t832)=true:=c94
                      (try (have c94b1:decide (t828=t832)=false:=by simpa using c94))
                      (try (have c94b2:(t828==t832)=false:=by simpa using c94))
                      (try (have c94b3: ¬ (t828=t832):=by simpa using c94))
                      clear c94
                      (first|rw [c94b0] |(simp only [Qci,Qdb];rw [c94b0])|skip)
                      have H':=Zk H;clear H;go_wp2
                      go_meet
                      case rel=>exact ⟨_,(true),(by first|rfl|(simp;done)|(simp [*];done)),H',⟨by have:=HJ9.out;have:=HJ36.out;have:=HJ54.out;have:=HJ69.out;first|omega|exact Nat.le_refl _⟩,⟨Kd.R_mono (uR HO827) (fun _ hk=>⟨hk.1.1.1.2,⟨hk.1.1.2,hk.1.2⟩⟩)⟩,⟨Kd.R_mono (uR HO_779000) (fun _ hk=>⟨hk.1.2,⟨hk.1.1.1,hk.1.1.2⟩⟩)⟩,⟨Kd.R_mono (uR HO_805000) (fun _ hk=>⟨hk.1.2,⟨hk.1.1.1,hk.1.1.2⟩⟩)⟩,⟨Kd.R_mono (uR HO821) (fun _ hk=>⟨hk.1.2,⟨hk.1.1.1.2,hk.1.1.2⟩⟩)⟩,⟨uK BK778⟩,⟨uK BK804⟩,⟨uK BK824⟩,⟨(vB HB)⟩⟩
                     ·
                      rw [if_neg c94] at H;have c94b0:(t828 !=t832)=false:=by simpa using c94
                      (try (have c94b1:decide (t828=t832)=true:=by simpa using c94))
                      (try (have c94b2:(t828==t832)=true:=by simpa using c94))
                      clear c94
                      (first|rw [c94b0] |(simp only [Qci,Qdb];rw [c94b0])|skip)
                      obtain ⟨t833,A95,H⟩:=bs H;(try dsimp only at H)
                      have H':=Zk H;clear H;obtain ⟨Ao96,co96,eo96⟩:=Kd.R_slice HO827.out;subst eo96;obtain ⟨Ao97,co97,eo97⟩:=Kd.R_slice HO831.out;subst eo97
                      as_aux_lemma=>
                       go_wp2_with (first|(go_at_call 12;(with_reducible refine (Qbu.calls kj69 _ _ t825 _ _ t829 t833 _ (uE HO827) ?side2 (uE HO831) ?side4 A95.out).mono ?_);(case side2=>exact (Kd.R_reads' HO827.out).2.1);(case side4=>exact (Kd.R_reads' HO831.out).2.1);rintro e w' ⟨rfl,⟨nd,rfl⟩⟩))
                       go_meet
                       case rel=>exact ⟨_,(!t833),(by first|rfl|(simp;done)|(simp [*];done)),H',⟨by have:=HJ9.out;have:=HJ36.out;have:=HJ54.out;have:=HJ69.out;first|omega|exact Nat.le_refl _⟩,⟨Kd.R_mono (uR HO827) (fun _ hk=>⟨hk.1.1.1.2,⟨hk.1.1.2,hk.1.2⟩⟩)⟩,⟨Kd.R_mono (uR HO_779000) (fun _ hk=>⟨hk.1.2,⟨hk.1.1.1,hk.1.1.2⟩⟩)⟩,⟨Kd.R_mono (uR HO_805000) (fun _ hk=>⟨hk.1.2,⟨hk.1.1.1,hk.1.1.2⟩⟩)⟩,⟨Kd.R_mono (uR HO821) (fun _ hk=>⟨hk.1.2,⟨hk.1.1.1.2,hk.1.1.2⟩⟩)⟩,⟨uK BK778⟩,⟨uK BK804⟩,⟨uK BK824⟩,⟨(vB HB)⟩⟩
                    case rest=>as_aux_lemma=>
                     clear HC84
                     try clear hcz90_0 hcz92_0 hfz90_0 hfz92_0
                     obtain ⟨kq,x220_83,rfl,HA,HJ83,HO_29,HO_779000,HO_805000,HO_825000,BK778,BK804,BK824,HB⟩:=hcut;cases kq with
                     |zero=>exact absurd HA.out (by simp [laws_FnArraysAreLayers.j4])
                     |succ kj83=>
                      have H:=HA.out;clear HA;simp only [laws_FnArraysAreLayers.j4] at H
                      by_cases c98:x220_83=true
                      ·
                       subst c98;rw [if_pos rfl] at H;exact absurd H (by simp)
                      ·
                       replace c98:=Bool.eq_false_iff.mpr c98;subst c98;rw [if_neg (show ¬ (false=true) by decide)] at H;have HC99:=Zk H;clear H
                       as_aux_lemma=>
                        go_upto_region 28 with (fail)
                        go_cut [225] (fun v225 wc=> ∃ (kq:Nat) (x225_98:Bool),v225= .bool x225_98∧Z0 (laws_FnArraysAreLayers.j5 kq l1 t822 t823 t825 x225_98 t819=some r)∧Z0 (kq≤kj83)∧Z0 (Kd.R (Kd.int .i64) 3 wc w.heap.size (fun k_=>some k_≠((.slice Ao13 t771.length co13):Value).ownBlock∧some k_≠((.slice Ao58 t798.length co58):Value).ownBlock∧some k_≠((.slice Ao87 t819.length co87):Value).ownBlock) v826 t825)∧Z0 (Kd.R (Kd.int .i64) 3 wc w.heap.size (fun k_=>some k_≠(v826:Value).ownBlock∧some k_≠((.slice Ao58 t798.length co58):Value).ownBlock∧some k_≠((.slice Ao87 t819.length co87):Value).ownBlock) (.slice Ao13 t771.length co13) t771)∧Z0 (Kd.R (Kd.int .i64) 3 wc w.heap.size (fun k_=>some k_≠(v826:Value).ownBlock∧some k_≠((.slice Ao13 t771.length co13):Value).ownBlock∧some k_≠((.slice Ao87 t819.length co87):Value).ownBlock) (.slice Ao58 t798.length co58) t798)∧Z0 (Kd.R (Kd.int .i64) 3 wc w.heap.size (fun k_=>some k_≠(v826:Value).ownBlock∧some k_≠((.slice Ao13 t771.length co13):Value).ownBlock∧some k_≠((.slice Ao58 t798.length co58):Value).ownBlock) (.slice Ao87 t819.length co87) t819)∧Z0 (wc.heap[gb778]? =some (.cells #[(.slice Ao13 t771.length co13)] 26 (0,0)))∧Z0 (wc.heap[gb804]? =some (.cells #[(.slice Ao58 t798.length co58)] 26 (0,0)))∧Z0 (wc.heap[gb824]? =some (.cells #[(.slice Ao87 t819.length co87)] 26 (0,0)))∧Z0 (Below w.heap.size w wc))
                        case first=>as_aux_lemma=>
                         have H:=HC99.out;clear HC99
                         by_cases c100:t828=true
                         ·
                          subst c100;rw [if_pos rfl] at H;have H':=Zk H;clear H;go_wp2
                          go_meet
                          case rel=>exact ⟨_,(decide (t823>0)),(by first|rfl|(simp;done)|(simp [*];done)),H',⟨by have:=HJ9.out;have:=HJ36.out;have:=HJ54.out;have:=HJ69.out;have:=HJ83.out;first|omega|exact Nat.le_refl _⟩,⟨uR HO_29⟩,⟨uR HO_779000⟩,⟨uR HO_805000⟩,⟨uR HO_825000⟩,⟨uK BK778⟩,⟨uK BK804⟩,⟨uK BK824⟩,⟨(vB HB)⟩⟩
                         ·
                          replace c100:=Bool.eq_false_iff.mpr c100;subst c100;rw [if_neg (show ¬ (false=true) by decide)] at H;have H':=Zk H;clear H;go_wp2
                          go_meet
                          case rel=>exact ⟨_,(false),(by first|rfl|(simp;done)|(simp [*];done)),H',⟨by have:=HJ9.out;have:=HJ36.out;have:=HJ54.out;have:=HJ69.out;have:=HJ83.out;first|omega|exact Nat.le_refl _⟩,⟨uR HO_29⟩,⟨uR HO_779000⟩,⟨uR HO_805000⟩,⟨uR HO_825000⟩,⟨uK BK778⟩,⟨uK BK804⟩,⟨uK BK824⟩,⟨(vB HB)⟩⟩
                        case rest=>as_aux_lemma=>
                         clear HC99
                         skip
                         obtain ⟨kq,x225_98,rfl,HA,HJ98,HO_29,HO_779000,HO_805000,HO_825000,BK778,BK804,BK824,HB⟩:=hcut;cases kq with
                         |zero=>exact absurd HA.out (by simp [laws_FnArraysAreLayers.j5])
                         |succ kj98=>
                          have H:=HA.out;clear HA;simp only [laws_FnArraysAreLayers.j5] at H;have HC101:=Zk H;clear H
                          as_aux_lemma=>
                           go_upto_if 225 with (fail)
                           go_cut [] (fun wc=> ∃ (kq:Nat),Z0 (laws_FnArraysAreLayers.j6 kq l1=some r)∧Z0 (kq≤kj98)∧Z0 (Kd.R (Kd.int .i64) 3 wc w.heap.size (fun k_=>some k_≠((.slice Ao58 t798.length co58):Value).ownBlock∧some k_≠((.slice Ao87 t819.length co87):Value).ownBlock) (.slice Ao13 t771.length co13) t771)∧Z0 (Kd.R (Kd.int .i64) 3 wc w.heap.size (fun k_=>some k_≠((.slice Ao13 t771.length co13):Value).ownBlock∧some k_≠((.slice Ao87 t819.length co87):Value).ownBlock) (.slice Ao58 t798.length co58) t798)∧Z0 (Kd.R (Kd.int .i64) 3 wc w.heap.size (fun k_=>some k_≠((.slice Ao13 t771.length co13):Value).ownBlock∧some k_≠((.slice Ao58 t798.length co58):Value).ownBlock) (.slice Ao87 t819.length co87) t819)∧Z0 (wc.heap[gb778]? =some (.cells #[(.slice Ao13 t771.length co13)] 26 (0,0)))∧Z0 (wc.heap[gb804]? =some (.cells #[(.slice Ao58 t798.length co58)] 26 (0,0)))∧Z0 (wc.heap[gb824]? =some (.cells #[(.slice Ao87 t819.length co87)] 26 (0,0)))∧Z0 (Below w.heap.size w wc))
                           case first=>as_aux_lemma=>
                            have H:=HC101.out;clear HC101
                            by_cases c102:x225_98=true
                            ·
                             subst c102;rw [if_pos rfl] at H;obtain ⟨⟨t834,t837⟩,A103,H⟩:=bs H;(try dsimp only at H)
                             obtain ⟨⟨t838,t839⟩,A104,H⟩:=bs H;(try dsimp only at H)
                             obtain ⟨⟨t840,t843⟩,A105,H⟩:=bs H;(try dsimp only at H)
                             obtain ⟨⟨t844,t845⟩,A106,H⟩:=bs H;(try dsimp only at H)
                             by_cases c107:t837=true
                             ·
                              subst c107;rw [if_pos rfl] at H
                              by_cases c108:t839=true
                              ·
                               as_aux_lemma=>
                               subst c108;rw [if_pos rfl] at H
                               by_cases c109:t843=true
                               ·
                                subst c109;rw [if_pos rfl] at H;obtain ⟨t846,A110,H⟩:=bs H;(try dsimp only at H)
                                by_cases c111:t846=true
                                ·
                                 subst c111;rw [if_pos rfl] at H
                                 by_cases c112:t845=true
                                 ·
                                  subst c112;rw [if_pos rfl] at H
                                  by_cases c113:t844=t822
                                  ·
                                   rw [if_pos c113] at H;have c113b0:(t844==t822)=true:=beq_iff_eq.mpr c113;have c113b1:(t844 !=t822)=false:=bne_eq_false_iff_eq.mpr c113;clear c113
                                   (first|rw [c113b0] |(simp only [Qci,Qdb];rw [c113b0])|skip)
                                   have H':=Zk H;clear H;have hnb114:=NB824_778.out;have hnc114:=NB778_824.out;have hnb115:=NB824_804.out;have hnc115:=NB804_824.out;have hcz116_0:=bC BK824;have hfz116_0:=Qg BK824.out 0;obtain ⟨Ao117,co117,eo117⟩:=Kd.R_slice HO_29.out;subst eo117
                                   as_aux_lemma=>
                                    go_wp2_with (first|((with_reducible refine gt ?_);refine gA (some 230) Try.func11 #[.agg #[.slice Ao87 t819.length co87], .slice Ao117 t825.length co117, .int .i64 t823] ?_;(with_reducible refine (Qdw.calls kj98 _ _ t819 _ _ t825 t823 t834 true _ (uE HO_825000) ?side2 (uE HO_29) ?side4 A103.out).mono ?_);(case side2=>exact (Kd.R_reads' HO_825000.out).2.1);(case side4=>exact (Kd.R_reads' HO_29.out).2.1);rintro e w118 ⟨v835,rfl,ho0,hb⟩;refine ⟨_,rfl,?_⟩;have HO836:=Zk (Kd.R_lower (Kd.R_new' (Kd.R_new' (Kd.R_new' (Kd.R_new' ho0 (Kd.R_lt (uR HO_29))) (Kd.R_lt (uR HO_779000))) (Kd.R_lt (uR HO_805000))) (Kd.R_lt (uR HO_825000))) (Qh (vB HB)));replace HO_29:=Zk (Kd.R_elder' (uR HO_29) (Kd.R_base ho0) hb);replace HO_779000:=Zk (Kd.R_elder' (uR HO_779000) (Kd.R_base ho0) hb);replace HO_805000:=Zk (Kd.R_elder' (uR HO_805000) (Kd.R_base ho0) hb);replace HO_825000:=Zk (Kd.R_elder' (uR HO_825000) (Kd.R_base ho0) hb);replace BK778:=Zk (Qd (uK BK778) hb);replace BK804:=Zk (Qd (uK BK804) hb);replace BK824:=Zk (Qd (uK BK824) hb);replace HB:=Zk (Qc (vB HB) hb);(try clear hb ho0);have hcz119_0:=bC BK824;have hfz119_0:=Qg BK824.out 0)|((with_reducible refine gt ?_);refine gA (some 236) Try.func48 #[.agg #[.slice Ao87 t819.length co87], .int .i64 t822] ?_;(with_reducible refine (Qdr.calls kj98 _ _ t819 t822 t838 true _ (uE HO_825000) ?side2 A104.out).mono ?_);(case side2=>exact (Kd.R_reads' HO_825000.out).2.1);rintro e w120 ⟨rfl,hb⟩;refine ⟨_,rfl,?_⟩;replace HO_29:=Zk (Kd.R_below (uR HO_29) hb);replace HO_779000:=Zk (Kd.R_below (uR HO_779000) hb);replace HO_805000:=Zk (Kd.R_below (uR HO_805000) hb);replace HO_825000:=Zk (Kd.R_below (uR HO_825000) hb);replace HO836:=Zk (Kd.R_below (uR HO836) hb);replace BK778:=Zk (Qd (uK BK778) hb);replace BK804:=Zk (Qd (uK BK804) hb);replace BK824:=Zk (Qd (uK BK824) hb);replace HB:=Zk (Qc (vB HB) hb);(try clear hb);have hcz121_0:=bC BK824;have hfz121_0:=Qg BK824.out 0)|((with_reducible refine gt ?_);refine gA (some 243) Try.func46 #[.agg #[.slice Ao87 t819.length co87], .int .i64 t838, .int .i64 t823] ?_;(with_reducible refine (Qv.calls kj98 _ _ t819 t838 t823 t840 true _ (uE HO_825000) ?side2 A105.out).mono ?_);(case side2=>exact (Kd.R_reads' HO_825000.out).2.1);rintro e w122 ⟨v841,rfl,ho0,hb⟩;refine ⟨_,rfl,?_⟩;have HO842:=Zk (Kd.R_lower (Kd.R_new' (Kd.R_new' (Kd.R_new' (Kd.R_new' (Kd.R_new' ho0 (Kd.R_lt (uR HO_29))) (Kd.R_lt (uR HO_779000))) (Kd.R_lt (uR HO_805000))) (Kd.R_lt (uR HO_825000))) (Kd.R_lt (uR HO836))) (Qh (vB HB)));replace HO_29:=Zk (Kd.R_elder' (uR HO_29) (Kd.R_base ho0) hb);replace HO_779000:=Zk (Kd.R_elder' (uR HO_779000) (Kd.R_base ho0) hb);replace HO_805000:=Zk (Kd.R_elder' (uR HO_805000) (Kd.R_base ho0) hb);replace HO_825000:=Zk (Kd.R_elder' (uR HO_825000) (Kd.R_base ho0) hb);replace HO836:=Zk (Kd.R_elder' (uR HO836) (Kd.R_base ho0) hb);replace BK778:=Zk (Qd (uK BK778) hb);replace BK804:=Zk (Qd (uK BK804) hb);replace BK824:=Zk (Qd (uK BK824) hb);replace HB:=Zk (Qc (vB HB) hb);(try clear hb ho0);have hcz123_0:=bC BK824;have hfz123_0:=Qg BK824.out 0)|((with_reducible refine gt ?_);refine gA (some 250) Try.func39 #[.agg #[.slice Ao87 t819.length co87], .slice Ao117 t825.length co117, .int .i64 t823] ?_;(with_reducible refine (Qcu.calls kj98 _ _ t819 _ _ t825 t823 t844 true _ (uE HO_825000) ?side2 (uE HO_29) ?side4 A106.out).mono ?_);(case side2=>exact (Kd.R_reads' HO_825000.out).2.1);(case side4=>exact (Kd.R_reads' HO_29.out).2.1);rintro e w124 ⟨rfl,hb⟩;refine ⟨_,rfl,?_⟩;replace HO_29:=Zk (Kd.R_below (uR HO_29) hb);replace HO_779000:=Zk (Kd.R_below (uR HO_779000) hb);replace HO_805000:=Zk (Kd.R_below (uR HO_805000) hb);replace HO_825000:=Zk (Kd.R_below (uR HO_825000) hb);replace HO836:=Zk (Kd.R_below (uR HO836) hb);replace HO842:=Zk (Kd.R_below (uR HO842) hb);replace BK778:=Zk (Qd (uK BK778) hb);replace BK804:=Zk (Qd (uK BK804) hb);replace BK824:=Zk (Qd (uK BK824) hb);replace HB:=Zk (Qc (vB HB) hb);(try clear hb);obtain ⟨Ao125,co125,eo125⟩:=Kd.R_slice HO836.out;subst eo125;obtain ⟨Ao126,co126,eo126⟩:=Kd.R_slice HO842.out;subst eo126)|(go_at_call 12;(with_reducible refine (Qbu.calls kj98 _ _ t834 _ _ t840 true _ (uE HO836) ?side2 (uE HO842) ?side4 A110.out).mono ?_);(case side2=>exact (Kd.R_reads' HO836.out).2.1);(case side4=>exact (Kd.R_reads' HO842.out).2.1);rintro e w' ⟨rfl,⟨nd,rfl⟩⟩))
                                    go_meet
                                    case rel=>exact ⟨_,H',⟨by have:=HJ9.out;have:=HJ36.out;have:=HJ54.out;have:=HJ69.out;have:=HJ83.out;have:=HJ98.out;first|omega|exact Nat.le_refl _⟩,⟨Kd.R_mono (uR HO_779000) (fun _ hk=>⟨hk.1.1.2.1,hk.1.1.2.2⟩)⟩,⟨Kd.R_mono (uR HO_805000) (fun _ hk=>⟨hk.1.1.2.1,hk.1.1.2.2⟩)⟩,⟨Kd.R_mono (uR HO_825000) (fun _ hk=>⟨hk.1.1.2.1,hk.1.1.2.2⟩)⟩,⟨uK BK778⟩,⟨uK BK804⟩,⟨uK BK824⟩,⟨(vB HB)⟩⟩
                                  ·
                                   rw [if_neg c113] at H;exact absurd H (by simp)
                                 ·
                                  replace c112:=Bool.eq_false_iff.mpr c112;subst c112;rw [if_neg (show ¬ (false=true) by decide)] at H;exact absurd H (by simp)
                                ·
                                 replace c111:=Bool.eq_false_iff.mpr c111;subst c111;rw [if_neg (show ¬ (false=true) by decide)] at H;exact absurd H (by simp)
                               ·
                                replace c109:=Bool.eq_false_iff.mpr c109;subst c109;rw [if_neg (show ¬ (false=true) by decide)] at H;exact absurd H (by simp)
                              ·
                               replace c108:=Bool.eq_false_iff.mpr c108;subst c108;rw [if_neg (show ¬ (false=true) by decide)] at H;exact absurd H (by simp)
                             ·
                              replace c107:=Bool.eq_false_iff.mpr c107;subst c107;rw [if_neg (show ¬ (false=true) by decide)] at H;exact absurd H (by simp)
                            ·
                             replace c102:=Bool.eq_false_iff.mpr c102;subst c102;rw [if_neg (show ¬ (false=true) by decide)] at H;have H':=Zk H;clear H;go_wp2
                             go_meet
                             case rel=>exact ⟨_,H',⟨by have:=HJ9.out;have:=HJ36.out;have:=HJ54.out;have:=HJ69.out;have:=HJ83.out;have:=HJ98.out;first|omega|exact Nat.le_refl _⟩,⟨Kd.R_mono (uR HO_779000) (fun _ hk=>⟨hk.2.1,hk.2.2⟩)⟩,⟨Kd.R_mono (uR HO_805000) (fun _ hk=>⟨hk.2.1,hk.2.2⟩)⟩,⟨Kd.R_mono (uR HO_825000) (fun _ hk=>⟨hk.2.1,hk.2.2⟩)⟩,⟨uK BK778⟩,⟨uK BK804⟩,⟨uK BK824⟩,⟨(vB HB)⟩⟩
                           case rest=>as_aux_lemma=>
                            clear HC101
                            skip
                            obtain ⟨kq,HA,HJ100,HO_779000,HO_805000,HO_825000,BK778,BK804,BK824,HB⟩:=hcut;cases kq with
                            |zero=>exact absurd HA.out (by simp [laws_FnArraysAreLayers.j6])
                            |succ kj100=>
                             have H:=HA.out;clear HA;simp only [laws_FnArraysAreLayers.j6] at H;obtain ⟨⟨t847,t850⟩,A127,H⟩:=bs H;(try dsimp only at H)
                             obtain ⟨⟨t852,t855⟩,A128,H⟩:=bs H;(try dsimp only at H)
                             obtain ⟨⟨t856,t859⟩,A129,H⟩:=bs H;(try dsimp only at H)
                             have HC130:=Zk H;clear H
                             as_aux_lemma=>
                              go_upto_region 38 with ((with_reducible refine gt ?_);first|(refine gA (some 280) Try.func49 #[.slice A1 l1.length c1] ?_;(with_reducible refine (Qda.calls kj100 _ _ l1 t847 t850 _ (uD HR1 HB) HC1.out A127.out).mono ?_);rintro e w131 ⟨v848,rfl,ho0,hb⟩;refine ⟨_,rfl,?_⟩;have HO849:=Zk (Kd.R_lower (Kd.R_new' (Kd.R_new' (Kd.R_new' ho0 (Kd.R_lt (uR HO_779000))) (Kd.R_lt (uR HO_805000))) (Kd.R_lt (uR HO_825000))) (Qh (vB HB)));replace HO_779000:=Zk (Kd.R_elder' (uR HO_779000) (Kd.R_base ho0) hb);replace HO_805000:=Zk (Kd.R_elder' (uR HO_805000) (Kd.R_base ho0) hb);replace HO_825000:=Zk (Kd.R_elder' (uR HO_825000) (Kd.R_base ho0) hb);replace BK778:=Zk (Qd (uK BK778) hb);replace BK804:=Zk (Qd (uK BK804) hb);replace BK824:=Zk (Qd (uK BK824) hb);replace HB:=Zk (Qc (vB HB) hb);(try clear hb ho0))|((with_reducible refine Qb2 (N:=41) rfl ?_);(try (refine Qcx (by rfl) ?_;dsimp only));refine bE (N:=41) (cs:= #[.slice none 0 0]) (t:=26) ?_;intro gb851 hg w132 hbox hb;replace HO_779000:=Zk (Kd.R_below (uR HO_779000) hb);replace HO_805000:=Zk (Kd.R_below (uR HO_805000) hb);replace HO_825000:=Zk (Kd.R_below (uR HO_825000) hb);replace HO849:=Zk (Kd.R_below (uR HO849) hb);have BK851:=Zk (hbox);have GW851:=Zk ((by rw [hg];exact (Qh (vB HB)):w.heap.size≤gb851));have GE851:=GW851;replace HB:=Zk (Qc (vB HB) hb);have NB778_851:=Zk ((by rw [hg];exact Nat.ne_of_lt (Qb9 (uK BK778)):gb778≠gb851));have NB851_778:=Zk ((by rw [hg];exact Nat.ne_of_gt (Qb9 (uK BK778)):gb851≠gb778));replace BK778:=Zk (Qd (uK BK778) hb);have NB804_851:=Zk ((by rw [hg];exact Nat.ne_of_lt (Qb9 (uK BK804)):gb804≠gb851));have NB851_804:=Zk ((by rw [hg];exact Nat.ne_of_gt (Qb9 (uK BK804)):gb851≠gb804));replace BK804:=Zk (Qd (uK BK804) hb);have NB824_851:=Zk ((by rw [hg];exact Nat.ne_of_lt (Qb9 (uK BK824)):gb824≠gb851));have NB851_824:=Zk ((by rw [hg];exact Nat.ne_of_gt (Qb9 (uK BK824)):gb851≠gb824));replace BK824:=Zk (Qd (uK BK824) hb);clear hb hbox hg;obtain ⟨Ao133,co133,eo133⟩:=Kd.R_slice HO849.out;subst eo133;have hnb134:=NB851_778.out;have hnc134:=NB778_851.out;have hnb135:=NB851_804.out;have hnc135:=NB804_851.out;have hnb136:=NB851_824.out;have hnc136:=NB824_851.out;have hcz137_0:=bC BK851;have hfz137_0:=Qg BK851.out 0)|(refine gA (some 286) Try.func50 #[.agg #[.slice Ao133 t847.length co133], .int .i64 t850] ?_;(with_reducible refine (Qdg.calls kj100 _ _ t847 t850 t852 t855 _ ?side1 ?side2 A128.out).mono ?_);(case side1=>refine (Kd.R_reads' (e:=3) (base:=w.heap.size) (ok:=fun k_=>(((True∧some k_≠(.slice Ao13 t771.length co13:Value).ownBlock)∧some k_≠(.slice Ao58 t798.length co58:Value).ownBlock)∧some k_≠(.slice Ao87 t819.length co87:Value).ownBlock)) (n:=t847.length) (c:=co133) ?_).2.2;exact (rF HO849 BK851 (.slice Ao133 t847.length co133)));(case side2=>exact (Kd.R_reads' HO849.out).2.1);rintro e w138 ⟨v853,rfl,ho0,hb⟩;refine ⟨_,rfl,?_⟩;have HO854:=Zk (Kd.N_lower (Kd.N_mono (ok':=fun k_=>some k_≠(.slice Ao13 t771.length co13:Value).ownBlock∧some k_≠(.slice Ao58 t798.length co58:Value).ownBlock∧some k_≠(.slice Ao87 t819.length co87:Value).ownBlock∧some k_≠(.slice Ao133 t847.length co133:Value).ownBlock∧k_≠gb778∧k_≠gb804∧k_≠gb824∧k_≠gb851) (Kd.S_N (Kd.S_bound ho0)) (fun k_ hk_=>⟨(Kd.fresh' (Kd.R_lt (rF HO_779000 BK851 (.slice Ao133 t847.length co133))) k_ hk_.2.1),(Kd.fresh' (Kd.R_lt (rF HO_805000 BK851 (.slice Ao133 t847.length co133))) k_ hk_.2.1),(Kd.fresh' (Kd.R_lt (rF HO_825000 BK851 (.slice Ao133 t847.length co133))) k_ hk_.2.1),(Kd.fresh' (Kd.R_lt (rF HO849 BK851 (.slice Ao133 t847.length co133))) k_ hk_.2.1),(Kd.freshB (g:=gb778) (o:= .cells #[.slice Ao13 t771.length co13] 26 (0,0)) kF k_ hk_.2.1),(Kd.freshB (g:=gb804) (o:= .cells #[.slice Ao58 t798.length co58] 26 (0,0)) kF k_ hk_.2.1),(Kd.freshB (g:=gb824) (o:= .cells #[.slice Ao87 t819.length co87] 26 (0,0)) kF k_ hk_.2.1),(Kd.freshB (g:=gb851) (o:= .cells #[.slice Ao133 t847.length co133] 26 (0,0)) bP k_ hk_.2.1)⟩)) (Qh (vB HB)));replace HO_779000:=Zk (Kd.R_below (rF HO_779000 BK851 (.slice Ao133 t847.length co133)) hb);replace HO_805000:=Zk (Kd.R_below (rF HO_805000 BK851 (.slice Ao133 t847.length co133)) hb);replace HO_825000:=Zk (Kd.R_below (rF HO_825000 BK851 (.slice Ao133 t847.length co133)) hb);replace HO849:=Zk (Kd.R_below (rF HO849 BK851 (.slice Ao133 t847.length co133)) hb);replace BK778:=Zk (Qd (g:=gb778) (o:= .cells #[.slice Ao13 t771.length co13] 26 (0,0)) kF hb);replace BK804:=Zk (Qd (g:=gb804) (o:= .cells #[.slice Ao58 t798.length co58] 26 (0,0)) kF hb);replace BK824:=Zk (Qd (g:=gb824) (o:= .cells #[.slice Ao87 t819.length co87] 26 (0,0)) kF hb);replace BK851:=Zk (Qd (g:=gb851) (o:= .cells #[.slice Ao133 t847.length co133] 26 (0,0)) bP hb);replace HB:=Zk (Qc (vB HB) hb);(try clear hb ho0);have hcz139_0:=bC BK851;have hfz139_0:=Qg BK851.out 0)|(refine gA (some 292) Try.func51 #[.agg #[.slice Ao133 t847.length co133], .int .i64 t850] ?_;(with_reducible refine (Qds.calls kj100 _ _ t847 t850 t856 t859 _ (uE HO849) ?side2 A129.out).mono ?_);(case side2=>exact (Kd.R_reads' HO849.out).2.1);rintro e w140 ⟨v857,rfl,ho0,hb⟩;refine ⟨_,rfl,?_⟩;have HO858:=Zk (Kd.N_lower (Kd.N_mono (ok':=fun k_=>some k_≠(.slice Ao13 t771.length co13:Value).ownBlock∧some k_≠(.slice Ao58 t798.length co58:Value).ownBlock∧some k_≠(.slice Ao87 t819.length co87:Value).ownBlock∧some k_≠(.slice Ao133 t847.length co133:Value).ownBlock∧some k_≠(v853:Value).ownBlock∧k_≠gb778∧k_≠gb804∧k_≠gb824∧k_≠gb851) ho0 (fun k_ hk_=>⟨(Kd.fresh' (Kd.R_lt (uR HO_779000)) k_ hk_),(Kd.fresh' (Kd.R_lt (uR HO_805000)) k_ hk_),(Kd.fresh' (Kd.R_lt (uR HO_825000)) k_ hk_),(Kd.fresh' (Kd.R_lt (uR HO849)) k_ hk_),(Kd.fresh' (Kd.N_lt (by (with_reducible repeat (first|apply Kd.N_alloc|apply Kd.N_drewN|apply Kd.N_drew));exact HO854.out)) k_ hk_),(Kd.freshB (uK BK778) k_ hk_),(Kd.freshB (uK BK804) k_ hk_),(Kd.freshB (uK BK824) k_ hk_),(Kd.freshB (uK BK851) k_ hk_)⟩)) (Qh (vB HB)));replace HO_779000:=Zk (Kd.R_below (uR HO_779000) hb);replace HO_805000:=Zk (Kd.R_below (uR HO_805000) hb);replace HO_825000:=Zk (Kd.R_below (uR HO_825000) hb);replace HO849:=Zk (Kd.R_below (uR HO849) hb);replace HO854:=Zk (Kd.N_elder' (by (with_reducible repeat (first|apply Kd.N_alloc|apply Kd.N_drewN|apply Kd.N_drew));exact HO854.out) (Kd.N_base ho0) hb);replace BK778:=Zk (Qd (uK BK778) hb);replace BK804:=Zk (Qd (uK BK804) hb);replace BK824:=Zk (Qd (uK BK824) hb);replace BK851:=Zk (Qd (uK BK851) hb);replace HB:=Zk (Qc (vB HB) hb);(try clear hb ho0)))
                              (try simp only [Act.put,List.setIfInBounds_toArray,List.set_cons_zero,List.set_cons_succ])
                              as_aux_lemma=>
                               go_cut [303] (fun v303 wc=> ∃ (kq:Nat) (x303_129:Bool),v303= .bool x303_129∧Z0 (laws_FnArraysAreLayers.j7 kq l1 t850 t852 t855 x303_129 t847=some r)∧Z0 (kq≤kj100)∧Z0 (Kd.N (Kd.slice 3 (Kd.int .i64)) 24 wc w.heap.size (fun k_=>some k_≠((.slice Ao13 t771.length co13):Value).ownBlock∧some k_≠((.slice Ao58 t798.length co58):Value).ownBlock∧some k_≠((.slice Ao87 t819.length co87):Value).ownBlock∧some k_≠((.slice Ao133 t847.length co133):Value).ownBlock∧k_≠gb778∧k_≠gb804∧k_≠gb824∧k_≠gb851) v853 t852)∧Z0 (Kd.R (Kd.int .i64) 3 wc w.heap.size (fun k_=>some k_≠((.slice Ao58 t798.length co58):Value).ownBlock∧some k_≠((.slice Ao87 t819.length co87):Value).ownBlock∧some k_≠((.slice Ao133 t847.length co133):Value).ownBlock) (.slice Ao13 t771.length co13) t771)∧Z0 (Kd.R (Kd.int .i64) 3 wc w.heap.size (fun k_=>some k_≠((.slice Ao13 t771.length co13):Value).ownBlock∧some k_≠((.slice Ao87 t819.length co87):Value).ownBlock∧some k_≠((.slice Ao133 t847.length co133):Value).ownBlock) (.slice Ao58 t798.length co58) t798)∧Z0 (Kd.R (Kd.int .i64) 3 wc w.heap.size (fun k_=>some k_≠((.slice Ao13 t771.length co13):Value).ownBlock∧some k_≠((.slice Ao58 t798.length co58):Value).ownBlock∧some k_≠((.slice Ao133 t847.length co133):Value).ownBlock) (.slice Ao87 t819.length co87) t819)∧Z0 (Kd.R (Kd.int .i64) 3 wc w.heap.size (fun k_=>some k_≠((.slice Ao13 t771.length co13):Value).ownBlock∧some k_≠((.slice Ao58 t798.length co58):Value).ownBlock∧some k_≠((.slice Ao87 t819.length co87):Value).ownBlock) (.slice Ao133 t847.length co133) t847)∧Z0 (wc.heap[gb778]? =some (.cells #[(.slice Ao13 t771.length co13)] 26 (0,0)))∧Z0 (wc.heap[gb804]? =some (.cells #[(.slice Ao58 t798.length co58)] 26 (0,0)))∧Z0 (wc.heap[gb824]? =some (.cells #[(.slice Ao87 t819.length co87)] 26 (0,0)))∧Z0 (wc.heap[gb851]? =some (.cells #[(.slice Ao133 t847.length co133)] 26 (0,0)))∧Z0 (Below w.heap.size w wc))
                               case first=>as_aux_lemma=>
                                have H:=HC130.out;clear HC130
                                by_cases c141:(t855 !=t859)=true
                                ·
                                 as_aux_lemma=>
                                 rw [if_pos c141] at H;have c141b0:(t855 !=t859)=true:=c141
                                 (try (have c141b1:decide (t855=t859)=false:=by simpa using c141))
                                 (try (have c141b2:(t855==t859)=false:=by simpa using c141))
                                 (try (have c141b3: ¬ (t855=t859):=by simpa using c141))
                                 clear c141
                                 (first|rw [c141b0] |(simp only [Qci,Qdb];rw [c141b0])|skip)
                                 have H':=Zk H;clear H;go_wp2
                                 go_meet
                                 case rel=>exact ⟨_,(true),(by first|rfl|(simp;done)|(simp [*];done)),H',⟨by have:=HJ9.out;have:=HJ36.out;have:=HJ54.out;have:=HJ69.out;have:=HJ83.out;have:=HJ98.out;have:=HJ100.out;first|omega|exact Nat.le_refl _⟩,⟨by (with_reducible repeat (first|apply Kd.N_alloc|apply Kd.N_drewN|apply Kd.N_drew));exact Kd.N_mono HO854.out (fun _ hk=>⟨hk.1.1,⟨hk.1.2.1,⟨hk.1.2.2.1,⟨hk.1.2.2.2.1,⟨hk.1.2.2.2.2.1,⟨hk.1.2.2.2.2.2.1,⟨hk.1.2.2.2.2.2.2.1,hk.1.2.2.2.2.2.2.2⟩⟩⟩⟩⟩⟩⟩)⟩,⟨Kd.R_mono (uR HO_779000) (fun _ hk=>⟨hk.1.1,⟨hk.1.2,hk.2⟩⟩)⟩,⟨Kd.R_mono (uR HO_805000) (fun _ hk=>⟨hk.1.1,⟨hk.1.2,hk.2⟩⟩)⟩,⟨Kd.R_mono (uR HO_825000) (fun _ hk=>⟨hk.1.1,⟨hk.1.2,hk.2⟩⟩)⟩,⟨Kd.R_mono (uR HO849) (fun _ hk=>⟨hk.1.1.2,⟨hk.1.2,hk.2⟩⟩)⟩,⟨uK BK778⟩,⟨uK BK804⟩,⟨uK BK824⟩,⟨uK BK851⟩,⟨(vB HB)⟩⟩
                                ·
                                 rw [if_neg c141] at H;have c141b0:(t855 !=t859)=false:=by simpa using c141
                                 (try (have c141b1:decide (t855=t859)=true:=by simpa using c141))
                                 (try (have c141b2:(t855==t859)=true:=by simpa using c141))
                                 clear c141
                                 (first|rw [c141b0] |(simp only [Qci,Qdb];rw [c141b0])|skip)
                                 obtain ⟨t860,A142,H⟩:=bs H;(try dsimp only at H)
                                 have H':=Zk H;clear H;obtain ⟨Ao143,co143,eo143⟩:=Kd.N_slice HO854.out;subst eo143;obtain ⟨Ao144,co144,eo144⟩:=Kd.N_slice HO858.out;subst eo144
                                 as_aux_lemma=>
                                  go_wp2_with (first|(go_at_call 10;(with_reducible refine (Qct.calls kj100 _ _ t852 _ _ t856 t860 _ ?side1 ?side2 ?side3 ?side4 A142.out).mono ?_);(case side1=>repeat (first|exact (Kd.N_reads' HO854.out).2.2|(with_reducible refine Kd.C_alloc ?_ _)|(with_reducible refine Kd.C_drewN ?_ _)|(with_reducible refine Kd.C_drew ?_)));(case side2=>exact (Kd.N_reads' HO854.out).2.1);(case side3=>repeat (first|exact (Kd.N_reads' HO858.out).2.2|(with_reducible refine Kd.C_alloc ?_ _)|(with_reducible refine Kd.C_drewN ?_ _)|(with_reducible refine Kd.C_drew ?_)));(case side4=>exact (Kd.N_reads' HO858.out).2.1);rintro e w' ⟨rfl,⟨nd,rfl⟩⟩))
                                  go_meet
                                  case rel=>exact ⟨_,(!t860),(by first|rfl|(simp;done)|(simp [*];done)),H',⟨by have:=HJ9.out;have:=HJ36.out;have:=HJ54.out;have:=HJ69.out;have:=HJ83.out;have:=HJ98.out;have:=HJ100.out;first|omega|exact Nat.le_refl _⟩,⟨by (with_reducible repeat (first|apply Kd.N_alloc|apply Kd.N_drewN|apply Kd.N_drew));exact Kd.N_mono HO854.out (fun _ hk=>⟨hk.1.1,⟨hk.1.2.1,⟨hk.1.2.2.1,⟨hk.1.2.2.2.1,⟨hk.1.2.2.2.2.1,⟨hk.1.2.2.2.2.2.1,⟨hk.1.2.2.2.2.2.2.1,hk.1.2.2.2.2.2.2.2⟩⟩⟩⟩⟩⟩⟩)⟩,⟨Kd.R_mono (uR HO_779000) (fun _ hk=>⟨hk.1.1,⟨hk.1.2,hk.2⟩⟩)⟩,⟨Kd.R_mono (uR HO_805000) (fun _ hk=>⟨hk.1.1,⟨hk.1.2,hk.2⟩⟩)⟩,⟨Kd.R_mono (uR HO_825000) (fun _ hk=>⟨hk.1.1,⟨hk.1.2,hk.2⟩⟩)⟩,⟨Kd.R_mono (uR HO849) (fun _ hk=>⟨hk.1.1.2,⟨hk.1.2,hk.2⟩⟩)⟩,⟨uK BK778⟩,⟨uK BK804⟩,⟨uK BK824⟩,⟨uK BK851⟩,⟨(vB HB)⟩⟩
                               case rest=>as_aux_lemma=>
                                clear HC130
                                try clear hcz137_0 hcz139_0 hfz137_0 hfz139_0
                                obtain ⟨kq,x303_129,rfl,HA,HJ129,HO_43,HO_779000,HO_805000,HO_825000,HO_852000,BK778,BK804,BK824,BK851,HB⟩:=hcut;cases kq with
                                |zero=>exact absurd HA.out (by simp [laws_FnArraysAreLayers.j7])
                                |succ kj129=>
                                 have H:=HA.out;clear HA;simp only [laws_FnArraysAreLayers.j7] at H
                                 by_cases c145:x303_129=true
                                 ·
                                  subst c145;rw [if_pos rfl] at H;exact absurd H (by simp)
                                 ·
                                  replace c145:=Bool.eq_false_iff.mpr c145;subst c145;rw [if_neg (show ¬ (false=true) by decide)] at H;have HC146:=Zk H;clear H
                                  as_aux_lemma=>
                                   go_upto_if 304 with (fail)
                                   go_cut [] (fun wc=> ∃ (kq:Nat),Z0 (laws_FnArraysAreLayers.j10 kq l1=some r)∧Z0 (kq≤kj129)∧Z0 (Kd.R (Kd.int .i64) 3 wc w.heap.size (fun k_=>some k_≠((.slice Ao58 t798.length co58):Value).ownBlock∧some k_≠((.slice Ao87 t819.length co87):Value).ownBlock∧some k_≠((.slice Ao133 t847.length co133):Value).ownBlock) (.slice Ao13 t771.length co13) t771)∧Z0 (Kd.R (Kd.int .i64) 3 wc w.heap.size (fun k_=>some k_≠((.slice Ao13 t771.length co13):Value).ownBlock∧some k_≠((.slice Ao87 t819.length co87):Value).ownBlock∧some k_≠((.slice Ao133 t847.length co133):Value).ownBlock) (.slice Ao58 t798.length co58) t798)∧Z0 (Kd.R (Kd.int .i64) 3 wc w.heap.size (fun k_=>some k_≠((.slice Ao13 t771.length co13):Value).ownBlock∧some k_≠((.slice Ao58 t798.length co58):Value).ownBlock∧some k_≠((.slice Ao133 t847.length co133):Value).ownBlock) (.slice Ao87 t819.length co87) t819)∧Z0 (Kd.R (Kd.int .i64) 3 wc w.heap.size (fun k_=>some k_≠((.slice Ao13 t771.length co13):Value).ownBlock∧some k_≠((.slice Ao58 t798.length co58):Value).ownBlock∧some k_≠((.slice Ao87 t819.length co87):Value).ownBlock) (.slice Ao133 t847.length co133) t847)∧Z0 (wc.heap[gb778]? =some (.cells #[(.slice Ao13 t771.length co13)] 26 (0,0)))∧Z0 (wc.heap[gb804]? =some (.cells #[(.slice Ao58 t798.length co58)] 26 (0,0)))∧Z0 (wc.heap[gb824]? =some (.cells #[(.slice Ao87 t819.length co87)] 26 (0,0)))∧Z0 (wc.heap[gb851]? =some (.cells #[(.slice Ao133 t847.length co133)] 26 (0,0)))∧Z0 (Below w.heap.size w wc))
                                   case first=>as_aux_lemma=>
                                    have H:=HC146.out;clear HC146
                                    by_cases c147:t855=true
                                    ·
                                     subst c147;rw [if_pos rfl] at H;obtain ⟨⟨t861,t862⟩,A148,H⟩:=bs H;(try dsimp only at H)
                                     have HC149:=Zk H;clear H;have hnb150:=NB851_778.out;have hnc150:=NB778_851.out;have hnb151:=NB851_804.out;have hnc151:=NB804_851.out;have hnb152:=NB851_824.out;have hnc152:=NB824_851.out;have hcz153_0:=bC BK851;have hfz153_0:=Qg BK851.out 0
                                     as_aux_lemma=>
                                      go_upto_region 42 with ((with_reducible refine gt ?_);first|(refine gA (some 308) Try.func52 #[.agg #[.slice Ao133 t847.length co133], .int .i64 t850] ?_;(with_reducible refine (Qcw.calls kj129 _ _ t847 t850 t861 t862 _ (uE HO_852000) ?side2 A148.out).mono ?_);(case side2=>exact (Kd.R_reads' HO_852000.out).2.1);rintro e w154 ⟨rfl,hb⟩;refine ⟨_,rfl,?_⟩;replace HO_43:=Zk (Kd.N_below (by (with_reducible repeat (first|apply Kd.N_alloc|apply Kd.N_drewN|apply Kd.N_drew));exact HO_43.out) hb);replace HO_779000:=Zk (Kd.R_below (uR HO_779000) hb);replace HO_805000:=Zk (Kd.R_below (uR HO_805000) hb);replace HO_825000:=Zk (Kd.R_below (uR HO_825000) hb);replace HO_852000:=Zk (Kd.R_below (uR HO_852000) hb);replace BK778:=Zk (Qd (uK BK778) hb);replace BK804:=Zk (Qd (uK BK804) hb);replace BK824:=Zk (Qd (uK BK824) hb);replace BK851:=Zk (Qd (uK BK851) hb);replace HB:=Zk (Qc (vB HB) hb);(try clear hb)))
                                      (try simp only [Act.put,List.setIfInBounds_toArray,List.set_cons_zero,List.set_cons_succ])
                                      as_aux_lemma=>
                                       go_cut [318] (fun v318 wc=> ∃ (kq:Nat) (x318_148:Bool),v318= .bool x318_148∧Z0 (laws_FnArraysAreLayers.j8 kq l1 t850 t852 x318_148 t847=some r)∧Z0 (kq≤kj129)∧Z0 (Kd.N (Kd.slice 3 (Kd.int .i64)) 24 wc w.heap.size (fun k_=>some k_≠((.slice Ao13 t771.length co13):Value).ownBlock∧some k_≠((.slice Ao58 t798.length co58):Value).ownBlock∧some k_≠((.slice Ao87 t819.length co87):Value).ownBlock∧some k_≠((.slice Ao133 t847.length co133):Value).ownBlock∧k_≠gb778∧k_≠gb804∧k_≠gb824∧k_≠gb851) v853 t852)∧Z0 (Kd.R (Kd.int .i64) 3 wc w.heap.size (fun k_=>some k_≠((.slice Ao58 t798.length co58):Value).ownBlock∧some k_≠((.slice Ao87 t819.length co87):Value).ownBlock∧some k_≠((.slice Ao133 t847.length co133):Value).ownBlock) (.slice Ao13 t771.length co13) t771)∧Z0 (Kd.R (Kd.int .i64) 3 wc w.heap.size (fun k_=>some k_≠((.slice Ao13 t771.length co13):Value).ownBlock∧some k_≠((.slice Ao87 t819.length co87):Value).ownBlock∧some k_≠((.slice Ao133 t847.length co133):Value).ownBlock) (.slice Ao58 t798.length co58) t798)∧Z0 (Kd.R (Kd.int .i64) 3 wc w.heap.size (fun k_=>some k_≠((.slice Ao13 t771.length co13):Value).ownBlock∧some k_≠((.slice Ao58 t798.length co58):Value).ownBlock∧some k_≠((.slice Ao133 t847.length co133):Value).ownBlock) (.slice Ao87 t819.length co87) t819)∧Z0 (Kd.R (Kd.int .i64) 3 wc w.heap.size (fun k_=>some k_≠((.slice Ao13 t771.length co13):Value).ownBlock∧some k_≠((.slice Ao58 t798.length co58):Value).ownBlock∧some k_≠((.slice Ao87 t819.length co87):Value).ownBlock) (.slice Ao133 t847.length co133) t847)∧Z0 (wc.heap[gb778]? =some (.cells #[(.slice Ao13 t771.length co13)] 26 (0,0)))∧Z0 (wc.heap[gb804]? =some (.cells #[(.slice Ao58 t798.length co58)] 26 (0,0)))∧Z0 (wc.heap[gb824]? =some (.cells #[(.slice Ao87 t819.length co87)] 26 (0,0)))∧Z0 (wc.heap[gb851]? =some (.cells #[(.slice Ao133 t847.length co133)] 26 (0,0)))∧Z0 (Below w.heap.size w wc))
                                       case first=>as_aux_lemma=>
                                        have H:=HC149.out;clear HC149
                                        by_cases c155:t862=true
                                        ·
                                         as_aux_lemma=>
                                         subst c155;rw [if_pos rfl] at H;have H':=Zk H;clear H;obtain ⟨Ao156,co156,eo156⟩:=Kd.N_slice HO_43.out;subst eo156;go_wp2
                                         go_meet
                                         case rel=>exact ⟨_,((t861 !=(t852.length:Int))),(by first|rfl|(simp;done)|(simp [*];done)),H',⟨by have:=HJ9.out;have:=HJ36.out;have:=HJ54.out;have:=HJ69.out;have:=HJ83.out;have:=HJ98.out;have:=HJ100.out;have:=HJ129.out;first|omega|exact Nat.le_refl _⟩,⟨by (with_reducible repeat (first|apply Kd.N_alloc|apply Kd.N_drewN|apply Kd.N_drew));exact HO_43.out⟩,⟨uR HO_779000⟩,⟨uR HO_805000⟩,⟨uR HO_825000⟩,⟨uR HO_852000⟩,⟨uK BK778⟩,⟨uK BK804⟩,⟨uK BK824⟩,⟨uK BK851⟩,⟨(vB HB)⟩⟩
                                        ·
                                         replace c155:=Bool.eq_false_iff.mpr c155;subst c155;rw [if_neg (show ¬ (false=true) by decide)] at H;have H':=Zk H;clear H;go_wp2
                                         go_meet
                                         case rel=>exact ⟨_,(true),(by first|rfl|(simp;done)|(simp [*];done)),H',⟨by have:=HJ9.out;have:=HJ36.out;have:=HJ54.out;have:=HJ69.out;have:=HJ83.out;have:=HJ98.out;have:=HJ100.out;have:=HJ129.out;first|omega|exact Nat.le_refl _⟩,⟨by (with_reducible repeat (first|apply Kd.N_alloc|apply Kd.N_drewN|apply Kd.N_drew));exact HO_43.out⟩,⟨uR HO_779000⟩,⟨uR HO_805000⟩,⟨uR HO_825000⟩,⟨uR HO_852000⟩,⟨uK BK778⟩,⟨uK BK804⟩,⟨uK BK824⟩,⟨uK BK851⟩,⟨(vB HB)⟩⟩
                                       case rest=>as_aux_lemma=>
                                        clear HC149
                                        try clear hcz153_0 hfz153_0
                                        obtain ⟨kq,x318_148,rfl,HA,HJ148,HO_43,HO_779000,HO_805000,HO_825000,HO_852000,BK778,BK804,BK824,BK851,HB⟩:=hcut;cases kq with
                                        |zero=>exact absurd HA.out (by simp [laws_FnArraysAreLayers.j8])
                                        |succ kj148=>
                                         have H:=HA.out;clear HA;simp only [laws_FnArraysAreLayers.j8] at H
                                         by_cases c157:x318_148=true
                                         ·
                                          subst c157;rw [if_pos rfl] at H;exact absurd H (by simp)
                                         ·
                                          replace c157:=Bool.eq_false_iff.mpr c157;subst c157;rw [if_neg (show ¬ (false=true) by decide)] at H;have H':=Zk H;clear H;obtain ⟨Ao158,co158,eo158⟩:=Kd.N_slice HO_43.out;subst eo158;go_wp2
                                          as_aux_lemma=>
                                           go_loopg [321] kj148 (fun kq v321 w'=> ∃ (x321_10:Int),v321= .int .i64 x321_10∧Z0 (laws_FnArraysAreLayers.l0 kq l1 t850 t852 (t852.length:Int) x321_10 t847=some r)∧Z0 (kq≤kj148)∧Z0 (Kd.N (Kd.slice 3 (Kd.int .i64)) 24 w' w.heap.size (fun k_=>some k_≠((.slice Ao13 t771.length co13):Value).ownBlock∧some k_≠((.slice Ao58 t798.length co58):Value).ownBlock∧some k_≠((.slice Ao87 t819.length co87):Value).ownBlock∧some k_≠((.slice Ao133 t847.length co133):Value).ownBlock∧k_≠gb778∧k_≠gb804∧k_≠gb824∧k_≠gb851) (.slice Ao158 t852.length co158) t852)∧Z0 (Kd.R (Kd.int .i64) 3 w' w.heap.size (fun k_=>some k_≠((.slice Ao58 t798.length co58):Value).ownBlock∧some k_≠((.slice Ao87 t819.length co87):Value).ownBlock∧some k_≠((.slice Ao133 t847.length co133):Value).ownBlock) (.slice Ao13 t771.length co13) t771)∧Z0 (Kd.R (Kd.int .i64) 3 w' w.heap.size (fun k_=>some k_≠((.slice Ao13 t771.length co13):Value).ownBlock∧some k_≠((.slice Ao87 t819.length co87):Value).ownBlock∧some k_≠((.slice Ao133 t847.length co133):Value).ownBlock) (.slice Ao58 t798.length co58) t798)∧Z0 (Kd.R (Kd.int .i64) 3 w' w.heap.size (fun k_=>some k_≠((.slice Ao13 t771.length co13):Value).ownBlock∧some k_≠((.slice Ao58 t798.length co58):Value).ownBlock∧some k_≠((.slice Ao133 t847.length co133):Value).ownBlock) (.slice Ao87 t819.length co87) t819)∧Z0 (Kd.R (Kd.int .i64) 3 w' w.heap.size (fun k_=>some k_≠((.slice Ao13 t771.length co13):Value).ownBlock∧some k_≠((.slice Ao58 t798.length co58):Value).ownBlock∧some k_≠((.slice Ao87 t819.length co87):Value).ownBlock) (.slice Ao133 t847.length co133) t847)∧Z0 (w'.heap[gb778]? =some (.cells #[(.slice Ao13 t771.length co13)] 26 (0,0)))∧Z0 (w'.heap[gb804]? =some (.cells #[(.slice Ao58 t798.length co58)] 26 (0,0)))∧Z0 (w'.heap[gb824]? =some (.cells #[(.slice Ao87 t819.length co87)] 26 (0,0)))∧Z0 (w'.heap[gb851]? =some (.cells #[(.slice Ao133 t847.length co133)] 26 (0,0)))∧Z0 (Below w.heap.size w w'))
                                           case atStart=>exact ⟨(0),(by first|rfl|(simp;done)|(simp [*];done)),H',⟨Nat.le_refl _⟩,⟨by (with_reducible repeat (first|apply Kd.N_alloc|apply Kd.N_drewN|apply Kd.N_drew));exact HO_43.out⟩,⟨uR HO_779000⟩,⟨uR HO_805000⟩,⟨uR HO_825000⟩,⟨uR HO_852000⟩,⟨uK BK778⟩,⟨uK BK804⟩,⟨uK BK824⟩,⟨uK BK851⟩,⟨(vB HB)⟩⟩
                                           case round=>as_aux_lemma=>
                                            clear H'
                                            skip
                                            obtain ⟨x321_10,rfl,HA,HK10,HO_319,HO_779000,HO_805000,HO_825000,HO_852000,BK778,BK804,BK824,BK851,HB⟩:=hrel;cases gk with
                                            |zero=>exact absurd HA.out (by simp [laws_FnArraysAreLayers.l0])
                                            |succ k10=>
                                             have H:=HA.out;clear HA;simp only [laws_FnArraysAreLayers.l0] at H
                                             by_cases c159:x321_10<(t852.length:Int)
                                             ·
                                              rw [if_pos c159] at H;have c159b0:=decide_eq_true c159;clear c159
                                              by_cases c160:0≤x321_10
                                              ·
                                               as_aux_lemma=>
                                               rw [if_pos c160] at H;have c160b0:=decide_eq_true c160;clear c160
                                               by_cases c161:x321_10<(t852.length:Int)
                                               ·
                                                rw [if_pos c161] at H;have c161b0:=decide_eq_true c161;clear c161;obtain ⟨⟨t864,t865⟩,A162,H⟩:=bs H;(try dsimp only at H)
                                                by_cases c163:t865=true
                                                ·
                                                 subst c163;rw [if_pos rfl] at H
                                                 by_cases c164:t864=true
                                                 ·
                                                  subst c164;rw [if_pos rfl] at H;have H':=Zk H;clear H;have p863:0≤(x321_10:Int):=of_decide_eq_true (by first|(with_reducible assumption)|assumption);have q863:x321_10<(t852.length:Int):=of_decide_eq_true (by first|(with_reducible assumption)|assumption);obtain ⟨ad863,A863_0,c863_0,e863,hx863_0,hl863_0,hi863_0⟩:=Qhx (Kd.N_reads' HO_319.out).2.2 x321_10 p863 q863;cases e863;obtain ⟨ce863,hce863,hMe863,hcc863⟩:=Kd.N_get HO_319.out [] x321_10 p863 (by first|exact q863|exact of_decide_eq_true (by first|(with_reducible assumption)|assumption)|(have e_:=(Kd.N_reads' HO_319.out).1;omega));obtain ⟨ua863_0,uc863_0,rfl,ul863_0,ge863_0⟩:=Kd.FK_slice_open hMe863;have hv863_0:=hcc863 0 _ rfl;rw [Nat.add_zero,show ((Kd.slice 3 (Kd.int .i64))).sz=1 from rfl,Nat.mul_one] at hv863_0;replace hv863_0:=Option.some.inj (hv863_0.symm.trans hx863_0);injection hv863_0 with hva_ hvn_ hvc_
                                                  rw [hva_] at ge863_0;rw [hvc_] at ul863_0;have HL863_0:=Zk (show Kd.V (Kd.int .i64) 3 _ w.heap.size _ _ (Qce t852 x321_10) from Kd.V_mk ul863_0 ge863_0);clear hva_ hvn_ hvc_ ge863_0 ul863_0;clear hcc863 hce863;have HR863_0:=Zk hi863_0;have HC863_0:=Zk hl863_0;clear hi863_0 hl863_0;replace p863:=eq_true p863;replace q863:=eq_true q863;have hnb165:=NB851_778.out;have hnc165:=NB778_851.out;have hnb166:=NB851_804.out;have hnc166:=NB804_851.out;have hnb167:=NB851_824.out;have hnc167:=NB824_851.out;have hcz168_0:=bC BK851;have hfz168_0:=Qg BK851.out 0
                                                  as_aux_lemma=>
                                                   go_wp2_with ((with_reducible refine gt ?_);first|(refine gA (some 329) Try.func17 #[.agg #[.slice Ao133 t847.length co133], .slice A863_0 (Qce t852 x321_10).length c863_0, .int .i64 t850] ?_;(with_reducible refine (Qd0.calls k10 _ _ t847 _ _ (Qce t852 x321_10) t850 true true _ (uE HO_852000) ?side2 ?side3 HC863_0.out A162.out).mono ?_);(case side2=>exact (Kd.R_reads' HO_852000.out).2.1);(case side3=>repeat (first|exact (by repeat (first|(with_reducible exact HR863_0.out)|(with_reducible refine Kd.C_alloc ?_ _)|(with_reducible refine Kd.C_drewN ?_ _)|(with_reducible refine Kd.C_drew ?_)|exact HR863_0.out))|(with_reducible refine Kd.C_alloc ?_ _)|(with_reducible refine Kd.C_drewN ?_ _)|(with_reducible refine Kd.C_drew ?_)));rintro e w169 ⟨rfl,hb⟩;refine ⟨_,rfl,?_⟩;replace HO_319:=Zk (Kd.N_below (by (with_reducible repeat (first|apply Kd.N_alloc|apply Kd.N_drewN|apply Kd.N_drew));exact HO_319.out) hb);replace HO_779000:=Zk (Kd.R_below (uR HO_779000) hb);replace HO_805000:=Zk (Kd.R_below (uR HO_805000) hb);replace HO_825000:=Zk (Kd.R_below (uR HO_825000) hb);replace HO_852000:=Zk (Kd.R_below (uR HO_852000) hb);replace HL863_0:=Zk (Kd.V_below (by (with_reducible repeat (first|apply Kd.V_alloc|apply Kd.V_drewN|apply Kd.V_drew));exact HL863_0.out) hb);replace BK778:=Zk (Qd (uK BK778) hb);replace BK804:=Zk (Qd (uK BK804) hb);replace BK824:=Zk (Qd (uK BK824) hb);replace BK851:=Zk (Qd (uK BK851) hb);replace HR863_0:=Zk (Kd.C_below (by repeat (first|(with_reducible exact HR863_0.out)|(with_reducible refine Kd.C_alloc ?_ _)|(with_reducible refine Kd.C_drewN ?_ _)|(with_reducible refine Kd.C_drew ?_)|exact HR863_0.out)) hb);replace HB:=Zk (Qc (vB HB) hb);(try clear hb)));go_roundg k10
                                                   case measure=>have:=HJ9.out;have:=HJ36.out;have:=HJ54.out;have:=HJ69.out;have:=HJ83.out;have:=HJ98.out;have:=HJ100.out;have:=HJ129.out;have:=HJ148.out;have:=HK10.out;omega
                                                   case rel=>exact ⟨(wrap64 (x321_10+1)),(by first|rfl|(simp;done)|(simp [*];done)),H',⟨by have:=HJ9.out;have:=HJ36.out;have:=HJ54.out;have:=HJ69.out;have:=HJ83.out;have:=HJ98.out;have:=HJ100.out;have:=HJ129.out;have:=HJ148.out;have:=HK10.out;omega⟩,⟨by (with_reducible repeat (first|apply Kd.N_alloc|apply Kd.N_drewN|apply Kd.N_drew));exact HO_319.out⟩,⟨uR HO_779000⟩,⟨uR HO_805000⟩,⟨uR HO_825000⟩,⟨uR HO_852000⟩,⟨uK BK778⟩,⟨uK BK804⟩,⟨uK BK824⟩,⟨uK BK851⟩,⟨(vB HB)⟩⟩
                                                 ·
                                                  replace c164:=Bool.eq_false_iff.mpr c164;subst c164;rw [if_neg (show ¬ (false=true) by decide)] at H;exact absurd H (by simp)
                                                ·
                                                 replace c163:=Bool.eq_false_iff.mpr c163;subst c163;rw [if_neg (show ¬ (false=true) by decide)] at H;exact absurd H (by simp)
                                               ·
                                                rw [if_neg c161] at H;exact absurd H (by simp)
                                              ·
                                               rw [if_neg c160] at H;exact absurd H (by simp)
                                             ·
                                              rw [if_neg c159] at H;have c159b0:=decide_eq_false c159;clear c159;have H':=Zk H;clear H;go_wp2
                                              go_meet
                                              case rel=>exact ⟨_,H',⟨by have:=HJ9.out;have:=HJ36.out;have:=HJ54.out;have:=HJ69.out;have:=HJ83.out;have:=HJ98.out;have:=HJ100.out;have:=HJ129.out;have:=HJ148.out;have:=HK10.out;first|omega|exact Nat.le_refl _⟩,⟨uR HO_779000⟩,⟨uR HO_805000⟩,⟨uR HO_825000⟩,⟨uR HO_852000⟩,⟨uK BK778⟩,⟨uK BK804⟩,⟨uK BK824⟩,⟨uK BK851⟩,⟨(vB HB)⟩⟩
                                    ·
                                     replace c147:=Bool.eq_false_iff.mpr c147;subst c147;rw [if_neg (show ¬ (false=true) by decide)] at H;have H':=Zk H;clear H;go_wp2
                                     go_meet
                                     case rel=>exact ⟨_,H',⟨by have:=HJ9.out;have:=HJ36.out;have:=HJ54.out;have:=HJ69.out;have:=HJ83.out;have:=HJ98.out;have:=HJ100.out;have:=HJ129.out;first|omega|exact Nat.le_refl _⟩,⟨uR HO_779000⟩,⟨uR HO_805000⟩,⟨uR HO_825000⟩,⟨uR HO_852000⟩,⟨uK BK778⟩,⟨uK BK804⟩,⟨uK BK824⟩,⟨uK BK851⟩,⟨(vB HB)⟩⟩
                                   case rest=>as_aux_lemma=>
                                    clear HC146
                                    skip
                                    obtain ⟨kq,HA,HJ145,HO_779000,HO_805000,HO_825000,HO_852000,BK778,BK804,BK824,BK851,HB⟩:=hcut;cases kq with
                                    |zero=>exact absurd HA.out (by simp [laws_FnArraysAreLayers.j10])
                                    |succ kj145=>
                                     have H:=HA.out;clear HA;simp only [laws_FnArraysAreLayers.j10] at H;obtain ⟨⟨t866,t869⟩,A170,H⟩:=bs H;(try dsimp only at H)
                                     obtain ⟨⟨t871,t872⟩,A171,H⟩:=bs H;(try dsimp only at H)
                                     obtain ⟨⟨t873,t874⟩,A172,H⟩:=bs H;(try dsimp only at H)
                                     have HC173:=Zk H;clear H
                                     as_aux_lemma=>
                                      go_upto_region 54 with ((with_reducible refine gt ?_);first|(refine gA (some 341) Try.func53 #[.slice A1 l1.length c1] ?_;(with_reducible refine (Qcz.calls kj145 _ _ l1 t866 t869 _ (uD HR1 HB) HC1.out A170.out).mono ?_);rintro e w174 ⟨v867,rfl,ho0,hb⟩;refine ⟨_,rfl,?_⟩;have HO868:=Zk (Kd.R_lower (Kd.R_new' (Kd.R_new' (Kd.R_new' (Kd.R_new' ho0 (Kd.R_lt (uR HO_779000))) (Kd.R_lt (uR HO_805000))) (Kd.R_lt (uR HO_825000))) (Kd.R_lt (uR HO_852000))) (Qh (vB HB)));replace HO_779000:=Zk (Kd.R_elder' (uR HO_779000) (Kd.R_base ho0) hb);replace HO_805000:=Zk (Kd.R_elder' (uR HO_805000) (Kd.R_base ho0) hb);replace HO_825000:=Zk (Kd.R_elder' (uR HO_825000) (Kd.R_base ho0) hb);replace HO_852000:=Zk (Kd.R_elder' (uR HO_852000) (Kd.R_base ho0) hb);replace BK778:=Zk (Qd (uK BK778) hb);replace BK804:=Zk (Qd (uK BK804) hb);replace BK824:=Zk (Qd (uK BK824) hb);replace BK851:=Zk (Qd (uK BK851) hb);replace HB:=Zk (Qc (vB HB) hb);(try clear hb ho0))|((with_reducible refine Qb2 (N:=53) rfl ?_);(try (refine Qcx (by rfl) ?_;dsimp only));refine bE (N:=53) (cs:= #[.slice none 0 0]) (t:=26) ?_;intro gb870 hg w175 hbox hb;replace HO_779000:=Zk (Kd.R_below (uR HO_779000) hb);replace HO_805000:=Zk (Kd.R_below (uR HO_805000) hb);replace HO_825000:=Zk (Kd.R_below (uR HO_825000) hb);replace HO_852000:=Zk (Kd.R_below (uR HO_852000) hb);replace HO868:=Zk (Kd.R_below (uR HO868) hb);have BK870:=Zk (hbox);have GW870:=Zk ((by rw [hg];exact (Qh (vB HB)):w.heap.size≤gb870));have GE870:=GW870;replace HB:=Zk (Qc (vB HB) hb);have NB778_870:=Zk ((by rw [hg];exact Nat.ne_of_lt (Qb9 (uK BK778)):gb778≠gb870));have NB870_778:=Zk ((by rw [hg];exact Nat.ne_of_gt (Qb9 (uK BK778)):gb870≠gb778));replace BK778:=Zk (Qd (uK BK778) hb);have NB804_870:=Zk ((by rw [hg];exact Nat.ne_of_lt (Qb9 (uK BK804)):gb804≠gb870));have NB870_804:=Zk ((by rw [hg];exact Nat.ne_of_gt (Qb9 (uK BK804)):gb870≠gb804));replace BK804:=Zk (Qd (uK BK804) hb);have NB824_870:=Zk ((by rw [hg];exact Nat.ne_of_lt (Qb9 (uK BK824)):gb824≠gb870));have NB870_824:=Zk ((by rw [hg];exact Nat.ne_of_gt (Qb9 (uK BK824)):gb870≠gb824));replace BK824:=Zk (Qd (uK BK824) hb);have NB851_870:=Zk ((by rw [hg];exact Nat.ne_of_lt (Qb9 (uK BK851)):gb851≠gb870));have NB870_851:=Zk ((by rw [hg];exact Nat.ne_of_gt (Qb9 (uK BK851)):gb870≠gb851));replace BK851:=Zk (Qd (uK BK851) hb);clear hb hbox hg;obtain ⟨Ao176,co176,eo176⟩:=Kd.R_slice HO868.out;subst eo176;have hnb177:=NB870_778.out;have hnc177:=NB778_870.out;have hnb178:=NB870_804.out;have hnc178:=NB804_870.out;have hnb179:=NB870_824.out;have hnc179:=NB824_870.out;have hnb180:=NB870_851.out;have hnc180:=NB851_870.out;have hcz181_0:=bC BK870;have hfz181_0:=Qg BK870.out 0)|(refine gA (some 347) Try.func52 #[.agg #[.slice Ao176 t866.length co176], .int .i64 t869] ?_;(with_reducible refine (Qcw.calls kj145 _ _ t866 t869 t871 t872 _ ?side1 ?side2 A171.out).mono ?_);(case side1=>refine (Kd.R_reads' (e:=3) (base:=w.heap.size) (ok:=fun k_=>((((True∧some k_≠(.slice Ao13 t771.length co13:Value).ownBlock)∧some k_≠(.slice Ao58 t798.length co58:Value).ownBlock)∧some k_≠(.slice Ao87 t819.length co87:Value).ownBlock)∧some k_≠(.slice Ao133 t847.length co133:Value).ownBlock)) (n:=t866.length) (c:=co176) ?_).2.2;exact (rF HO868 BK870 (.slice Ao176 t866.length co176)));(case side2=>exact (Kd.R_reads' HO868.out).2.1);rintro e w182 ⟨rfl,hb⟩;refine ⟨_,rfl,?_⟩;replace HO_779000:=Zk (Kd.R_below (rF HO_779000 BK870 (.slice Ao176 t866.length co176)) hb);replace HO_805000:=Zk (Kd.R_below (rF HO_805000 BK870 (.slice Ao176 t866.length co176)) hb);replace HO_825000:=Zk (Kd.R_below (rF HO_825000 BK870 (.slice Ao176 t866.length co176)) hb);replace HO_852000:=Zk (Kd.R_below (rF HO_852000 BK870 (.slice Ao176 t866.length co176)) hb);replace HO868:=Zk (Kd.R_below (rF HO868 BK870 (.slice Ao176 t866.length co176)) hb);replace BK778:=Zk (Qd (g:=gb778) (o:= .cells #[.slice Ao13 t771.length co13] 26 (0,0)) kF hb);replace BK804:=Zk (Qd (g:=gb804) (o:= .cells #[.slice Ao58 t798.length co58] 26 (0,0)) kF hb);replace BK824:=Zk (Qd (g:=gb824) (o:= .cells #[.slice Ao87 t819.length co87] 26 (0,0)) kF hb);replace BK851:=Zk (Qd (g:=gb851) (o:= .cells #[.slice Ao133 t847.length co133] 26 (0,0)) kF hb);replace BK870:=Zk (Qd (g:=gb870) (o:= .cells #[.slice Ao176 t866.length co176] 26 (0,0)) bP hb);replace HB:=Zk (Qc (vB HB) hb);(try clear hb);have hcz183_0:=bC BK870;have hfz183_0:=Qg BK870.out 0)|(refine gA (some 353) Try.func54 #[.agg #[.slice Ao176 t866.length co176], .int .i64 t869] ?_;(with_reducible refine (Ql.calls kj145 _ _ t866 t869 t873 t874 _ (uE HO868) ?side2 A172.out).mono ?_);(case side2=>exact (Kd.R_reads' HO868.out).2.1);rintro e w184 ⟨rfl,hb⟩;refine ⟨_,rfl,?_⟩;replace HO_779000:=Zk (Kd.R_below (uR HO_779000) hb);replace HO_805000:=Zk (Kd.R_below (uR HO_805000) hb);replace HO_825000:=Zk (Kd.R_below (uR HO_825000) hb);replace HO_852000:=Zk (Kd.R_below (uR HO_852000) hb);replace HO868:=Zk (Kd.R_below (uR HO868) hb);replace BK778:=Zk (Qd (uK BK778) hb);replace BK804:=Zk (Qd (uK BK804) hb);replace BK824:=Zk (Qd (uK BK824) hb);replace BK851:=Zk (Qd (uK BK851) hb);replace BK870:=Zk (Qd (uK BK870) hb);replace HB:=Zk (Qc (vB HB) hb);(try clear hb)))
                                      (try simp only [Act.put,List.setIfInBounds_toArray,List.set_cons_zero,List.set_cons_succ])
                                      as_aux_lemma=>
                                       go_cut [363] (fun v363 wc=> ∃ (kq:Nat) (x363_172:Bool),v363= .bool x363_172∧Z0 (laws_FnArraysAreLayers.j11 kq t869 t871 t872 x363_172 t866=some r)∧Z0 (kq≤kj145)∧Z0 (Kd.R (Kd.int .i64) 3 wc w.heap.size (fun k_=>some k_≠((.slice Ao58 t798.length co58):Value).ownBlock∧some k_≠((.slice Ao87 t819.length co87):Value).ownBlock∧some k_≠((.slice Ao133 t847.length co133):Value).ownBlock∧some k_≠((.slice Ao176 t866.length co176):Value).ownBlock) (.slice Ao13 t771.length co13) t771)∧Z0 (Kd.R (Kd.int .i64) 3 wc w.heap.size (fun k_=>some k_≠((.slice Ao13 t771.length co13):Value).ownBlock∧some k_≠((.slice Ao87 t819.length co87):Value).ownBlock∧some k_≠((.slice Ao133 t847.length co133):Value).ownBlock∧some k_≠((.slice Ao176 t866.length co176):Value).ownBlock) (.slice Ao58 t798.length co58) t798)∧Z0 (Kd.R (Kd.int .i64) 3 wc w.heap.size (fun k_=>some k_≠((.slice Ao13 t771.length co13):Value).ownBlock∧some k_≠((.slice Ao58 t798.length co58):Value).ownBlock∧some k_≠((.slice Ao133 t847.length co133):Value).ownBlock∧some k_≠((.slice Ao176 t866.length co176):Value).ownBlock) (.slice Ao87 t819.length co87) t819)∧Z0 (Kd.R (Kd.int .i64) 3 wc w.heap.size (fun k_=>some k_≠((.slice Ao13 t771.length co13):Value).ownBlock∧some k_≠((.slice Ao58 t798.length co58):Value).ownBlock∧some k_≠((.slice Ao87 t819.length co87):Value).ownBlock∧some k_≠((.slice Ao176 t866.length co176):Value).ownBlock) (.slice Ao133 t847.length co133) t847)∧Z0 (Kd.R (Kd.int .i64) 3 wc w.heap.size (fun k_=>some k_≠((.slice Ao13 t771.length co13):Value).ownBlock∧some k_≠((.slice Ao58 t798.length co58):Value).ownBlock∧some k_≠((.slice Ao87 t819.length co87):Value).ownBlock∧some k_≠((.slice Ao133 t847.length co133):Value).ownBlock) (.slice Ao176 t866.length co176) t866)∧Z0 (wc.heap[gb778]? =some (.cells #[(.slice Ao13 t771.length co13)] 26 (0,0)))∧Z0 (wc.heap[gb804]? =some (.cells #[(.slice Ao58 t798.length co58)] 26 (0,0)))∧Z0 (wc.heap[gb824]? =some (.cells #[(.slice Ao87 t819.length co87)] 26 (0,0)))∧Z0 (wc.heap[gb851]? =some (.cells #[(.slice Ao133 t847.length co133)] 26 (0,0)))∧Z0 (wc.heap[gb870]? =some (.cells #[(.slice Ao176 t866.length co176)] 26 (0,0)))∧Z0 (Below w.heap.size w wc))
                                       case first=>as_aux_lemma=>
                                        have H:=HC173.out;clear HC173
                                        by_cases c185:(t872 !=t874)=true
                                        ·
                                         as_aux_lemma=>
                                         rw [if_pos c185] at H;have c185b0:(t872 !=t874)=true:=c185
                                         (try (have c185b1:decide (t872=t874)=false:=by simpa using c185))
                                         (try (have c185b2:(t872==t874)=false:=by simpa using c185))
                                         (try (have c185b3: ¬ (t872=t874):=by simpa using c185))
                                         clear c185
                                         (first|rw [c185b0] |(simp only [Qci,Qdb];rw [c185b0])|skip)
                                         have H':=Zk H;clear H;go_wp2
                                         go_meet
                                         case rel=>exact ⟨_,(true),(by first|rfl|(simp;done)|(simp [*];done)),H',⟨by have:=HJ9.out;have:=HJ36.out;have:=HJ54.out;have:=HJ69.out;have:=HJ83.out;have:=HJ98.out;have:=HJ100.out;have:=HJ129.out;have:=HJ145.out;first|omega|exact Nat.le_refl _⟩,⟨Kd.R_mono (uR HO_779000) (fun _ hk=>⟨hk.1.1,⟨hk.1.2.1,⟨hk.1.2.2,hk.2⟩⟩⟩)⟩,⟨Kd.R_mono (uR HO_805000) (fun _ hk=>⟨hk.1.1,⟨hk.1.2.1,⟨hk.1.2.2,hk.2⟩⟩⟩)⟩,⟨Kd.R_mono (uR HO_825000) (fun _ hk=>⟨hk.1.1,⟨hk.1.2.1,⟨hk.1.2.2,hk.2⟩⟩⟩)⟩,⟨Kd.R_mono (uR HO_852000) (fun _ hk=>⟨hk.1.1,⟨hk.1.2.1,⟨hk.1.2.2,hk.2⟩⟩⟩)⟩,⟨Kd.R_mono (uR HO868) (fun _ hk=>⟨hk.1.1.1.2,⟨hk.1.1.2,⟨hk.1.2,hk.2⟩⟩⟩)⟩,⟨uK BK778⟩,⟨uK BK804⟩,⟨uK BK824⟩,⟨uK BK851⟩,⟨uK BK870⟩,⟨(vB HB)⟩⟩
                                        ·
                                         rw [if_neg c185] at H;have c185b0:(t872 !=t874)=false:=by simpa using c185
                                         (try (have c185b1:decide (t872=t874)=true:=by simpa using c185))
                                         (try (have c185b2:(t872==t874)=true:=by simpa using c185))
                                         clear c185
                                         (first|rw [c185b0] |(simp only [Qci,Qdb];rw [c185b0])|skip)
                                         have H':=Zk H;clear H;go_wp2
                                         go_meet
                                         case rel=>exact ⟨_,((t871 !=t873)),(by first|rfl|(simp;done)|(simp [*];done)),H',⟨by have:=HJ9.out;have:=HJ36.out;have:=HJ54.out;have:=HJ69.out;have:=HJ83.out;have:=HJ98.out;have:=HJ100.out;have:=HJ129.out;have:=HJ145.out;first|omega|exact Nat.le_refl _⟩,⟨Kd.R_mono (uR HO_779000) (fun _ hk=>⟨hk.1.1,⟨hk.1.2.1,⟨hk.1.2.2,hk.2⟩⟩⟩)⟩,⟨Kd.R_mono (uR HO_805000) (fun _ hk=>⟨hk.1.1,⟨hk.1.2.1,⟨hk.1.2.2,hk.2⟩⟩⟩)⟩,⟨Kd.R_mono (uR HO_825000) (fun _ hk=>⟨hk.1.1,⟨hk.1.2.1,⟨hk.1.2.2,hk.2⟩⟩⟩)⟩,⟨Kd.R_mono (uR HO_852000) (fun _ hk=>⟨hk.1.1,⟨hk.1.2.1,⟨hk.1.2.2,hk.2⟩⟩⟩)⟩,⟨Kd.R_mono (uR HO868) (fun _ hk=>⟨hk.1.1.1.2,⟨hk.1.1.2,⟨hk.1.2,hk.2⟩⟩⟩)⟩,⟨uK BK778⟩,⟨uK BK804⟩,⟨uK BK824⟩,⟨uK BK851⟩,⟨uK BK870⟩,⟨(vB HB)⟩⟩
                                       case rest=>as_aux_lemma=>
                                        clear HC173
                                        try clear hcz181_0 hcz183_0 hfz181_0 hfz183_0
                                        obtain ⟨kq,x363_172,rfl,HA,HJ172,HO_779000,HO_805000,HO_825000,HO_852000,HO_871000,BK778,BK804,BK824,BK851,BK870,HB⟩:=hcut;cases kq with
                                        |zero=>exact absurd HA.out (by simp [laws_FnArraysAreLayers.j11])
                                        |succ kj172=>
                                         have H:=HA.out;clear HA;simp only [laws_FnArraysAreLayers.j11] at H
                                         by_cases c186:x363_172=true
                                         ·
                                          subst c186;rw [if_pos rfl] at H;exact absurd H (by simp)
                                         ·
                                          replace c186:=Bool.eq_false_iff.mpr c186;subst c186;rw [if_neg (show ¬ (false=true) by decide)] at H
                                          by_cases c187:t872=true
                                          ·
                                           subst c187;rw [if_pos rfl] at H
                                           by_cases c188:t869=1
                                           ·
                                            rw [if_pos c188] at H;have c188b0:(t869==1)=true:=beq_iff_eq.mpr c188;have c188b1:(t869 !=1)=false:=bne_eq_false_iff_eq.mpr c188;clear c188;obtain ⟨⟨t875,t876⟩,A189,H⟩:=bs H;(try dsimp only at H)
                                            by_cases c190:t876=true
                                            ·
                                             subst c190;rw [if_pos rfl] at H;obtain rfl:=Option.some.inj H;have hnb191:=NB870_778.out;have hnc191:=NB778_870.out;have hnb192:=NB870_804.out;have hnc192:=NB804_870.out;have hnb193:=NB870_824.out;have hnc193:=NB824_870.out;have hnb194:=NB870_851.out;have hnc194:=NB851_870.out;have hcz195_0:=bC BK870;have hfz195_0:=Qg BK870.out 0
                                             as_aux_lemma=>
                                              go_wp2_with ((with_reducible refine gt ?_);first|(refine gA (some 371) Try.func55 #[.agg #[.slice Ao176 t866.length co176]] ?_;(with_reducible refine (Qdh.calls kj172 _ _ t866 t875 true _ (uE HO_871000) ?side2 A189.out).mono ?_);(case side2=>exact (Kd.R_reads' HO_871000.out).2.1);rintro e w196 ⟨rfl,hb⟩;refine ⟨_,rfl,?_⟩;replace HO_779000:=Zk (Kd.R_below (uR HO_779000) hb);replace HO_805000:=Zk (Kd.R_below (uR HO_805000) hb);replace HO_825000:=Zk (Kd.R_below (uR HO_825000) hb);replace HO_852000:=Zk (Kd.R_below (uR HO_852000) hb);replace HO_871000:=Zk (Kd.R_below (uR HO_871000) hb);replace BK778:=Zk (Qd (uK BK778) hb);replace BK804:=Zk (Qd (uK BK804) hb);replace BK824:=Zk (Qd (uK BK824) hb);replace BK851:=Zk (Qd (uK BK851) hb);replace BK870:=Zk (Qd (uK BK870) hb);replace HB:=Zk (Qc (vB HB) hb);(try clear hb)))
                                              go_ret
                                              exact ⟨by first|rfl|(simp [Qe,Qf] <;>rfl)|(simp [*,Qe,Qf] <;>rfl),(vB HB)⟩
                                            ·
                                             replace c190:=Bool.eq_false_iff.mpr c190;subst c190;rw [if_neg (show ¬ (false=true) by decide)] at H;exact absurd H (by simp)
                                           ·
                                            rw [if_neg c188] at H;have c188b0:(t869==1)=false:=beq_eq_false_iff_ne.mpr c188;have c188b1:(t869 !=1)=true:=bne_iff_ne.mpr c188;obtain rfl:=Option.some.inj H;go_wp2
                                            go_ret
                                            exact ⟨by first|rfl|(simp [Qe,Qf] <;>rfl)|(simp [*,Qe,Qf] <;>rfl),(vB HB)⟩
                                          ·
                                           replace c187:=Bool.eq_false_iff.mpr c187;subst c187;rw [if_neg (show ¬ (false=true) by decide)] at H;obtain rfl:=Option.some.inj H;go_wp2
                                           go_ret
                                           exact ⟨by first|rfl|(simp [Qe,Qf] <;>rfl)|(simp [*,Qe,Qf] <;>rfl),(vB HB)⟩
def laws_FnArraysAreLayers.Pure:Prop:= ∀ (l0:List Int) (l1:List Int),l0.length≤maxLen→l0.length*1≤140737488351232→(∀ x ∈ l0,(Lit.int .u8 x).wf=true)→l1.length≤maxLen→l1.length*1≤140737488351232→(∀ x ∈ l1,(Lit.int .u8 x).wf=true)→ ∃ k,laws_FnArraysAreLayers.f k l0 l1=some true
theorem laws_FnArraysAreLayers.walk (P:laws_FnArraysAreLayers.Pure) (a0:Option Addr) (len0 cap0:Nat) (z0:List Int) (a1:Option Addr) (len1 cap1:Nat) (z1:List Int) (w:World) (w0:(a0=none∧len0=0∧cap0=0∧z0= [])∨ ∃ x,a0=some x∧len0≤cap0∧cap0≤maxLen∧z0.length=cap0∧(∀ i,i<z0.length→w.cell? (x.add i)=some (.int .u8 (z0.getD i 0)))∧ ∀ n ∈ z0,(Lit.int .u8 n).wf=true) (y0:len0*1≤140737488351232) (w1:(a1=none∧len1=0∧cap1=0∧z1= [])∨ ∃ x,a1=some x∧len1≤cap1∧cap1≤maxLen∧z1.length=cap1∧(∀ i,i<z1.length→w.cell? (x.add i)=some (.int .u8 (z1.getD i 0)))∧ ∀ n ∈ z1,(Lit.int .u8 n).wf=true) (y1:len1*1≤140737488351232):
 Calls Try.prog 5 #[.slice a0 len0 cap0, .slice a1 len1 cap1] w fun e w'=>e= .returned (.bool true)∧Below w.heap.size w w':=by
 obtain ⟨l0,rfl,hr0,hm0,hw0,hc0⟩:=Qdo.ofRowC w0;obtain ⟨l1,rfl,hr1,hm1,hw1,hc1⟩:=Qdo.ofRowC w1;obtain ⟨k,h⟩:=P l0 l1 hm0 y0 hw0 hm1 y1 hw1;refine (laws_FnArraysAreLayers.calls k _ _ l0 _ _ l1 true w (Kd.C_of_reads (d:=(0:Int)) (h1:=fun _=>rfl) hr0) hc0 (Kd.C_of_reads (d:=(0:Int)) (h1:=fun _=>rfl) hr1) hc1 h).mono ?_;rintro e w' ⟨rfl,hd⟩;exact ⟨rfl,hd⟩
end Go.Proofs.Ytkgngggppcmpfaa.L
end
section
namespace Go.Proofs.Ytkgngggppcmpfaa.M
open Go.RowKit Go.Proofs.YtkgngggppcmpfaaW.PrintWords Go.Proofs.YtkgngggppcmpfaaW.PrintLast Go.Proofs.YtkgngggppcmpfaaW.PrintMore
theorem Qc1 {x:Int} (h0: -9223372036854775808≤x) (h1:x≤9223372036854775807):wrap64 x=x:=by unfold wrap64;omega
theorem Qbv {i:Nat} (h:i<9223372036854775807):wrap64 ((i:Int)+1)=((i+1:Nat):Int):=by unfold wrap64;omega
theorem Qer {l:List Int} {i:Nat} (h:i<l.length):rd l (i:Int)=l[i] :=by simp [rd,List.getD_eq_getElem?_getD,h]
theorem Qfh {α:Type} {g:Nat→Option α} {r r':α} (h:Ev g r) (h':Ev g r'):r=r':=by
 obtain ⟨K, h⟩ := h; obtain ⟨K', h'⟩ := h'
 have a := h (max K K') (by omega); have b := h' (max K K') (by omega)
 exact Option.some.inj (a.symm.trans b)
theorem Qcg {α:Type} {c:Prop} [Decidable c] {f g:Nat→Option α} {r:α} (h1:c→Ev f r) (h2: ¬ c→Ev g r):Ev (fun k=>if c then f k else g k) r:=by
 by_cases h : c
 ·
  obtain ⟨K, hK⟩ := h1 h; exact ⟨K, fun k hk => by simp only [if_pos h]; exact hK k hk⟩
 ·
  obtain ⟨K, hK⟩ := h2 h; exact ⟨K, fun k hk => by simp only [if_neg h]; exact hK k hk⟩
theorem Qk {α:Type} {c:Prop} [Decidable c] {f g:Nat→Option α} {r:α} (h:c) (h1:Ev f r):Ev (fun k=>if c then f k else g k) r:=Qcg (fun _=>h1) (fun h2=>absurd h h2)
theorem Q2 {α:Type} {c:Prop} [Decidable c] {f g:Nat→Option α} {r:α} (h: ¬ c) (h1:Ev g r):Ev (fun k=>if c then f k else g k) r:=Qcg (fun h2=>absurd h2 h) (fun _=>h1)
theorem Q5 {α β:Type} {x:Option α} {a:α} {f:Nat→α→Option β} {r:β} (h:x=some a) (k:Ev (fun n=>f n a) r):Ev (fun n=>x.bind (f n)) r:=by subst h;simpa using k
def inB (x lo hi:Int):Bool:=decide (lo≤x) && decide (x≤hi)
theorem Qdc {x lo hi:Int} :inB x lo hi=true ↔ lo≤x∧x≤hi:=by simp [inB]
def sd (a b:Nat):Nat:=a ^^^ (a &&& b)
theorem Qhu (a b i:Nat):(sd a b).testBit i=(a.testBit i && !b.testBit i):=by
 unfold sd; rw [Nat.testBit_xor, Nat.testBit_and]; cases a.testBit i <;> cases b.testBit i <;> rfl
theorem Qgt {a b:Nat} :sd a b=0 ↔ ∀ i,a.testBit i=true→b.testBit i=true:=by
 constructor
 ·
  intro h i ha
  have := Qhu a b i
  rw [h, Nat.zero_testBit, ha] at this
  cases hb : b.testBit i
  ·
   rw [hb] at this; simp at this
  ·
   rfl
 ·
  intro h
  apply Nat.eq_of_testBit_eq
  intro i
  rw [Qhu, Nat.zero_testBit]
  cases ha : a.testBit i
  ·
   rfl
  ·
   rw [h i ha]; rfl
theorem sd_le (a b:Nat):sd a b≤a:=by
 have e : sd a b = sd a b &&& a := by
  apply Nat.eq_of_testBit_eq
  intro i
  rw [Nat.testBit_and, Qhu]
  cases a.testBit i <;> cases b.testBit i <;> rfl
 rw [e]; exact Nat.and_le_right
theorem Qh5 {a:Nat} (b:Nat) {n:Nat} (h:a<2 ^ n):sd a b<2 ^ n:=Nat.lt_of_le_of_lt (sd_le a b) h
theorem Qg7 {x:Nat} (h:x<2 ^ 63):IntKind.i64.wrap (x:Int)=(x:Int):=by
 rw [IntKind.wrap_i64]
 have : (x : Int) < 9223372036854775808 := by
  have h2 : (2 : Nat) ^ 63 = 9223372036854775808 := by decide
  omega
 omega
theorem Qf2 {a:Nat} (h:a<2 ^ 63):(BitVec.ofInt IntKind.i64.bits (a:Int)).toNat=a:=by
 have e : IntKind.i64.bits = 64 := rfl
 rw [e, BitVec.ofInt_natCast, BitVec.toNat_ofNat]
 exact Nat.mod_eq_of_lt (Nat.lt_of_lt_of_le h (by decide))
theorem Qhn {a b:Nat} (ha:a<2 ^ 63) (hb:b<2 ^ 63):Go.bits .or .i64 (a:Int) (b:Int)=((a|||b:Nat):Int):=by
 simp only [Go.bits, BitVec.toNat_or, Qf2 ha, Qf2 hb]
 exact Qg7 (Nat.or_lt_two_pow ha hb)
theorem Qmc {a b:Nat} (ha:a<2 ^ 63) (hb:b<2 ^ 63):Go.bits .and .i64 (a:Int) (b:Int)=((a &&& b:Nat):Int):=by
 simp only [Go.bits, BitVec.toNat_and, Qf2 ha, Qf2 hb]
 exact Qg7 (Nat.and_lt_two_pow _ hb)
theorem Qd4 {a b:Nat} (ha:a<2 ^ 63) (hb:b<2 ^ 63):Go.bits .andNot .i64 (a:Int) (b:Int)=((sd a b:Nat):Int):=by
 have e : (BitVec.ofInt IntKind.i64.bits (a : Int) &&& ~~~(BitVec.ofInt IntKind.i64.bits (b : Int))).toNat = sd a b := by
  apply Nat.eq_of_testBit_eq
  intro i
  rw [BitVec.toNat_and, Nat.testBit_and, Qf2 ha, Qhu]
  cases hai : a.testBit i
  ·
   rfl
  ·
   have hi : i < 64 := by
    apply Nat.lt_of_not_le; intro h
    have : a < 2 ^ i := Nat.lt_of_lt_of_le ha (Nat.pow_le_pow_right (by decide) (by omega))
    rw [Nat.testBit_lt_two_pow this] at hai; cases hai
   have e2 : (~~~(BitVec.ofInt IntKind.i64.bits (b : Int))).toNat.testBit i = (~~~(BitVec.ofInt IntKind.i64.bits (b : Int))).getLsbD i := rfl
   have e3 : (BitVec.ofInt IntKind.i64.bits (b : Int)).getLsbD i = b.testBit i := by
    show (BitVec.ofInt IntKind.i64.bits (b : Int)).toNat.testBit i = _
    rw [Qf2 hb]
   rw [e2, BitVec.getLsbD_not, e3]
   have : decide (i < IntKind.i64.bits) = true := decide_eq_true hi
   rw [this, Bool.true_and]
 simp only [Go.bits]
 rw [e]
 exact Qg7 (Qh5 b ha)
theorem Qgu {i:Nat} (h:i<63):shl .i64 1 (i:Int)=((2 ^ i:Nat):Int):=by
 unfold shl
 have e : min (i : Int).toNat IntKind.i64.bits = i := by
  have : IntKind.i64.bits = 64 := rfl
  rw [this, Int.toNat_natCast]; omega
 rw [e, Int.one_mul]
 have : ((2 : Int) ^ i) = ((2 ^ i : Nat) : Int) := by simp
 rw [this]
 exact Qg7 (Nat.pow_lt_pow_right (by decide) h)
theorem Qh6 {i:Nat} (h:i<62):wrap64 (shl .i64 1 (i:Int) - 1)=((2 ^ i - 1:Nat):Int):=by
 rw [Qgu (by omega)]
 have h1 : 0 < 2 ^ i := Nat.two_pow_pos i
 have h2 : 2 ^ i ≤ 2 ^ 62 := Nat.pow_le_pow_right (by decide) (by omega)
 have h3 : (2 : Nat) ^ 62 = 4611686018427387904 := by decide
 rw [Qc1 (by omega) (by omega)]; omega
theorem Qn3 {a i:Nat} (h:i≤64):shr .i64 (a:Int) (i:Int)=((a / 2 ^ i:Nat):Int):=by
 unfold shr
 have e : min (i : Int).toNat IntKind.i64.bits = i := by
  have : IntKind.i64.bits = 64 := rfl
  rw [this, Int.toNat_natCast]; omega
 rw [e]; simp
theorem Qnt {a i:Nat} (h:i≤64):(Int.tmod (shr .i64 (a:Int) (i:Int)) 2==1)=a.testBit i:=by
 rw [Qn3 h]
 have : Int.tmod ((a / 2 ^ i : Nat) : Int) 2 = ((a / 2 ^ i % 2 : Nat) : Int) := by
  rw [show (2 : Int) = ((2 : Nat) : Int) from rfl, Int.ofNat_tmod]
 rw [this, Nat.testBit_eq_decide_div_mod_eq, Bool.eq_iff_iff, beq_iff_eq, decide_eq_true_eq]
 omega
theorem Qmb {a i:Nat} (h:i≤64):(Int.tmod (shr .i64 (a:Int) (i:Int)) 2=1) ↔ a.testBit i=true:=by
 rw [← Qnt h]; simp
theorem bit_and {a i:Nat} (ha:a<2 ^ 63) (h:i≤64):(Go.bits .and .i64 (shr .i64 (a:Int) (i:Int)) 1==1)=a.testBit i:=by
 rw [Qn3 h, show (1 : Int) = ((1 : Nat) : Int) from rfl, Qmc (Nat.lt_of_le_of_lt (Nat.div_le_self _ _) ha) (by decide), Nat.and_one_is_mod, Nat.testBit_eq_decide_div_mod_eq, Bool.eq_iff_iff, beq_iff_eq, decide_eq_true_eq]
 omega
theorem Qe1 {a i n:Nat} (h:a<2 ^ n) (hi:a.testBit i=true):i<n:=by
 apply Nat.lt_of_not_le; intro h2
 rw [Nat.testBit_lt_two_pow (Nat.lt_of_lt_of_le h (Nat.pow_le_pow_right (by decide) h2))] at hi; cases hi
theorem lt63 {a n:Nat} (h:a<2 ^ n) (hn:n≤63):a<2 ^ 63:=Nat.lt_of_lt_of_le h (Nat.pow_le_pow_right (by decide) hn)
end Go.Proofs.Ytkgngggppcmpfaa.M
end
