/- Laws about the given program: the law FnRowvacuation answers true for every input that its row lets in; no condition is added to the given statement. Contracts of the Go functions that it reaches, and the plain proof over lists. -/
import Derived.Laws.BitsLemmas
import Derived.WalkKit
import Derived.Test.YtkgngggppcmpfaaGreatWFnRowvacuation0
import Derived.Test.YtkgngggppcmpfaaGreatKFnRowvacuation0
import Derived.Test.YtkgngggppcmpfaaGreatKFnRowvacuation1
import Derived.Test.YtkgngggppcmpfaaGreatKFnRowvacuation2
import Derived.Test.YtkgngggppcmpfaaGreatKFnRowvacuation3
import Derived.Test.YtkgngggppcmpfaaGreatKFnRowvacuation4
import Derived.Test.YtkgngggppcmpfaaGreatKFnRowvacuation5
import Derived.Test.YtkgngggppcmpfaaGreatKFnRowvacuation6
import Derived.Test.YtkgngggppcmpfaaGreatKFnRowvacuation7
section
namespace Go.Proofs.YtkgngggppcmpfaaGreat.L
open Go.RowKit Go.Proofs.YtkgngggppcmpfaaGreatW.PrintWords Go.Proofs.YtkgngggppcmpfaaGreatW.PrintLast Go.Proofs.YtkgngggppcmpfaaGreatW.PrintMore Go.Proofs.YtkgngggppcmpfaaGreat.X
attribute [local go_sem] Qt Qv Q2 Q3 Qm Qn Qu Qw
set_option linter.unusedVariables false
set_option linter.unusedSimpArgs false
mutual
def laws_FnRowvacuation.j0 : Nat → List Int → Int → Int → Bool → Int → Bool → List Int → Option (Bool)
 |0,_,_,_,_,_,_,_=>none
 |k+1,x1,x6,x7,x8,x11,x124,x746000=>if x124=true then (none) else (if x8=true then ((Qbs.f k x746000 x7).bind fun bt754=>((Qbc.f k x746000 x11).bind fun bt756=>((Qdb.f k x746000 x6).bind fun bt758=>((Qbs.f k x746000 bt758.1).bind fun bt760=>((Qdb.f k x746000 bt760.1).bind fun bt762=>((Qbc.f k x746000 bt758.1).bind fun bt764=>((Qdb.f k x746000 bt764.1).bind fun bt766=>((Qeb.f k x746000).bind fun bt768=>((Qbc.f k x746000 x7).bind fun bt772=>((Qc1.f k x746000 x6 (wrap64 ((bt768.1.length:Int)+1))).bind fun bt774=>(if bt754.2=true then (if bt754.1=x6 then (if bt756.2=true then (if bt756.1=x6 then (if bt758.2=true then (if bt760.2=true then (if bt762.2=true then (if bt762.1=x7 then (if bt764.2=true then (if bt766.2=true then (if bt766.1=x11 then (if bt768.2=true then (if bt772.2=true then (if bt774.2=true then (if bt772.1=bt774.1 then (laws_FnRowvacuation.j1 k x1) else (none)) else (none)) else (none)) else (none)) else (none)) else (none)) else (none)) else (none)) else (none)) else (none)) else (none)) else (none)) else (none)) else (none)) else (none)))))))))))) else (laws_FnRowvacuation.j1 k x1))
def laws_FnRowvacuation.j1 : Nat → List Int → Option (Bool)
 |0,_=>none
 |k+1,x1=>(Qbh.f k x1).bind fun t776=>((Qdc.f k t776).bind fun bt780=>((Qdd.f k t776).bind fun bt784=>(if (bt780.2 !=bt784.2)=true then (laws_FnRowvacuation.j2 k x1 bt780.1 bt780.2 true t776) else ((Qcw.f k bt780.1 bt784.1).bind fun t788=>(laws_FnRowvacuation.j2 k x1 bt780.1 bt780.2 (!t788) t776)))))
def laws_FnRowvacuation.j2 : Nat → List Int → List Int → Bool → Bool → List Int → Option (Bool)
 |0,_,_,_,_,_=>none
 |k+1,x1,x36,x37,x271,x780000=>if x271=true then (none) else (if x37=true then ((Qce.f k x780000 (wrap64 ((shl .i64 1 (x780000.length:Int)) - 1)) x36).bind fun bt789=>((Qbs.f k x780000 (wrap64 ((shl .i64 1 (x780000.length:Int)) - 1))).bind fun bt791=>(if bt789.2=true then (if bt791.2=true then (if bt789.1=bt791.1 then (laws_FnRowvacuation.j3 k x1) else (none)) else (none)) else (none)))) else (laws_FnRowvacuation.j3 k x1))
def laws_FnRowvacuation.j3 : Nat → List Int → Option (Bool)
 |0,_=>none
 |k+1,x1=>(Qct.f k x1).bind fun t793=>((Q8.f k t793).bind fun bt797=>((Qbk.f k t793).bind fun bt801=>(if (bt797.2 !=bt801.2)=true then (laws_FnRowvacuation.j4 k x1 bt797.1 true t793) else ((Qcw.f k bt797.1 bt801.1).bind fun t805=>(laws_FnRowvacuation.j4 k x1 bt797.1 (!t805) t793)))))
def laws_FnRowvacuation.j4 : Nat → List Int → List Int → Bool → List Int → Option (Bool)
 |0,_,_,_,_=>none
 |k+1,x1,x46,x322,x797000=>if x322=true then (none) else (laws_FnRowvacuation.l0 k x1 x46 x46 (x46.length:Int) 0 x797000)
def laws_FnRowvacuation.l0 : Nat → List Int → List Int → List Int → Int → Int → List Int → Option (Bool)
 |0,_,_,_,_,_,_=>none
 |k+1,x1,x46,x323,x324,x325,x797000=>if x325<x324 then (if 0≤x325 then (if x325<(x323.length:Int) then ((Qbs.f k x797000 (rd x323 x325)).bind fun bt807=>(if bt807.2=true then (if bt807.1=(rd x323 x325) then (if x325>0 then (if 0≤(wrap64 (x325 - 1)) then (if (wrap64 (x325 - 1))<(x46.length:Int) then (if (rd x46 (wrap64 (x325 - 1))) ≥ (rd x323 x325) then (none) else (laws_FnRowvacuation.l0 k x1 x46 x323 x324 (wrap64 (x325+1)) x797000)) else (none)) else (none)) else (laws_FnRowvacuation.l0 k x1 x46 x323 x324 (wrap64 (x325+1)) x797000)) else (none)) else (none))) else (none)) else (none)) else ((Qdh.f k x1).bind fun bt810=>((Qdn.f k bt810.1 bt810.2).bind fun bt815=>((Qdx.f k bt810.1 bt810.2).bind fun bt817=>((Qdv.f k bt810.1 bt810.2).bind fun bt819=>((Qdy.f k bt810.1 bt810.2).bind fun bt821=>(if (bt815.2 !=bt817.2)=true then (laws_FnRowvacuation.j6 k bt810.2 bt815.1 bt815.2 bt819.1 true bt810.1) else (if bt815.1=bt817.1 then (if (bt819.2 !=bt821.2)=true then (laws_FnRowvacuation.j6 k bt810.2 bt815.1 bt815.2 bt819.1 true bt810.1) else (if bt819.1=bt821.1 then (laws_FnRowvacuation.j6 k bt810.2 bt815.1 bt815.2 bt819.1 (bt815.2 !=bt819.2) bt810.1) else (laws_FnRowvacuation.j6 k bt810.2 bt815.1 bt815.2 bt819.1 true bt810.1))) else (laws_FnRowvacuation.j6 k bt810.2 bt815.1 bt815.2 bt819.1 true bt810.1))))))))
def laws_FnRowvacuation.j6 : Nat → Int → Int → Bool → Int → Bool → List Int → Option (Bool)
 |0,_,_,_,_,_,_=>none
 |k+1,x55,x56,x57,x60,x408,x815000=>if x408=true then (none) else (if x57=true then ((Qej.f k x815000).bind fun bt823=>((Qdn.f k bt823.1 x56).bind fun bt828=>((Qdb.f k bt823.1 x56).bind fun bt830=>(if bt823.2=true then (if bt828.2=true then (if bt828.1=x55 then (if bt830.2=true then (if bt830.1=x60 then ((Qek.f k bt823.1 x56).bind fun t832=>(some t832)) else (none)) else (none)) else (none)) else (none)) else (none))))) else (some true))
end
def laws_FnRowvacuation.f (k : Nat) (l0 : List Int) (l1 : List Int) : Option (Bool) := (Qf7.f l0 l1).bind fun t740 => (if t740 = true then (some true) else ((Qc8.f k l0).bind fun bt741 => ((Qbs.f k bt741.1 bt741.2).bind fun bt746 => ((Qdm.f k bt741.1 bt741.2).bind fun bt748 => ((Qbc.f k bt741.1 bt741.2).bind fun bt750 => ((Q1.f k bt741.1 bt741.2).bind fun bt752 => (if (bt746.2 != bt748.2) = true then (laws_FnRowvacuation.j0 k l1 bt741.2 bt746.1 bt746.2 bt750.1 true bt741.1) else (if bt746.1 = bt748.1 then (if (bt750.2 != bt752.2) = true then (laws_FnRowvacuation.j0 k l1 bt741.2 bt746.1 bt746.2 bt750.1 true bt741.1) else (if bt750.1 = bt752.1 then (laws_FnRowvacuation.j0 k l1 bt741.2 bt746.1 bt746.2 bt750.1 (bt750.2 != bt746.2) bt741.1) else (laws_FnRowvacuation.j0 k l1 bt741.2 bt746.1 bt746.2 bt750.1 true bt741.1))) else (laws_FnRowvacuation.j0 k l1 bt741.2 bt746.1 bt746.2 bt750.1 true bt741.1)))))))))
theorem laws_FnRowvacuation.mono_l : ∀ k, (∀ y0 y1 y2 y3 y4 y5 y6, LeO (laws_FnRowvacuation.j0 k y0 y1 y2 y3 y4 y5 y6) (laws_FnRowvacuation.j0 (k + 1) y0 y1 y2 y3 y4 y5 y6)) ∧ (∀ y0, LeO (laws_FnRowvacuation.j1 k y0) (laws_FnRowvacuation.j1 (k + 1) y0)) ∧ (∀ y0 y1 y2 y3 y4, LeO (laws_FnRowvacuation.j2 k y0 y1 y2 y3 y4) (laws_FnRowvacuation.j2 (k + 1) y0 y1 y2 y3 y4)) ∧ (∀ y0, LeO (laws_FnRowvacuation.j3 k y0) (laws_FnRowvacuation.j3 (k + 1) y0)) ∧ (∀ y0 y1 y2 y3, LeO (laws_FnRowvacuation.j4 k y0 y1 y2 y3) (laws_FnRowvacuation.j4 (k + 1) y0 y1 y2 y3)) ∧ (∀ y0 y1 y2 y3 y4 y5, LeO (laws_FnRowvacuation.l0 k y0 y1 y2 y3 y4 y5) (laws_FnRowvacuation.l0 (k + 1) y0 y1 y2 y3 y4 y5)) ∧ (∀ y0 y1 y2 y3 y4 y5, LeO (laws_FnRowvacuation.j6 k y0 y1 y2 y3 y4 y5) (laws_FnRowvacuation.j6 (k + 1) y0 y1 y2 y3 y4 y5))
 |0=>⟨fun _ _ _ _ _ _ _ r h=>by simp [laws_FnRowvacuation.j0] at h,fun _ r h=>by simp [laws_FnRowvacuation.j1] at h,fun _ _ _ _ _ r h=>by simp [laws_FnRowvacuation.j2] at h,fun _ r h=>by simp [laws_FnRowvacuation.j3] at h,fun _ _ _ _ r h=>by simp [laws_FnRowvacuation.j4] at h,fun _ _ _ _ _ _ r h=>by simp [laws_FnRowvacuation.l0] at h,fun _ _ _ _ _ _ r h=>by simp [laws_FnRowvacuation.j6] at h⟩
 |k+1=>by
  obtain ⟨ih0,ih1,ih2,ih3,ih4,ih5,ih6⟩:=laws_FnRowvacuation.mono_l k;refine ⟨?_,?_,?_,?_,?_,?_,?_⟩
  all_goals
   intros
   first|unfold laws_FnRowvacuation.j0|unfold laws_FnRowvacuation.j1|unfold laws_FnRowvacuation.j2|unfold laws_FnRowvacuation.j3|unfold laws_FnRowvacuation.j4|unfold laws_FnRowvacuation.l0|unfold laws_FnRowvacuation.j6
   repeat' (with_reducible first|apply ih0|apply ih1|apply ih2|apply ih3|apply ih4|apply ih5|apply ih6|apply Qdn.mono|apply Qej.mono|apply Qbc.mono|apply Q8.mono|apply Qeb.mono|apply Qdv.mono|apply Qdb.mono|apply Qc1.mono|apply Qbs.mono|apply Qdc.mono|apply Qce.mono|apply Qek.mono|apply Qcw.mono|apply Qdh.mono|apply Qct.mono|apply Qc8.mono|apply Qbh.mono|apply Qdx.mono|apply Q1.mono|apply Qbk.mono|apply Qdy.mono|apply Qdm.mono|apply Qdd.mono|exact LeO.refl _|exact LeO.none _|refine LeO.ite ?_ ?_|refine LeO.bind ?_ (fun _=> ?_))
theorem laws_FnRowvacuation.mono : ∀ a0 a1 k, LeO (laws_FnRowvacuation.f k a0 a1) (laws_FnRowvacuation.f (k + 1) a0 a1) := by
 intro a0 a1 k;obtain ⟨ih0,ih1,ih2,ih3,ih4,ih5,ih6⟩:=laws_FnRowvacuation.mono_l k;unfold laws_FnRowvacuation.f
 repeat' (with_reducible first|apply ih0|apply ih1|apply ih2|apply ih3|apply ih4|apply ih5|apply ih6|apply Qdn.mono|apply Qej.mono|apply Qbc.mono|apply Q8.mono|apply Qeb.mono|apply Qdv.mono|apply Qdb.mono|apply Qc1.mono|apply Qbs.mono|apply Qdc.mono|apply Qce.mono|apply Qek.mono|apply Qcw.mono|apply Qdh.mono|apply Qct.mono|apply Qc8.mono|apply Qbh.mono|apply Qdx.mono|apply Q1.mono|apply Qbk.mono|apply Qdy.mono|apply Qdm.mono|apply Qdd.mono|exact LeO.refl _|exact LeO.none _|refine LeO.ite ?_ ?_|refine LeO.bind ?_ (fun _=> ?_))
set_option maxHeartbeats 8000000 in
set_option maxRecDepth 100000 in
theorem laws_FnRowvacuation.calls (k : Nat) (A0 : Option Addr) (c0 : Nat) (l0 : List Int) (A1 : Option Addr) (c1 : Nat) (l1 : List Int) (r : Bool) (w : World) (hr0 : Kd.C (Kd.int .u8) w A0 l0.length l0) (hc0 : l0.length ≤ c0) (hr1 : Kd.C (Kd.int .u8) w A1 l1.length l1) (hc1 : l1.length ≤ c1) (h : laws_FnRowvacuation.f k l0 l1 = some r) :
 Calls Tryz.prog 3 #[.slice A0 l0.length c0, .slice A1 l1.length c1] w fun e w'=>e= .returned (.bool r)∧Below w.heap.size w w':=by
 have hu26:=Tryz.underlying26;have HR0:=Aside0.mk hr0;have HC0:=Aside0.mk hc0;clear hr0 hc0;have HR1:=Aside0.mk hr1;have HC1:=Aside0.mk hc1;clear hr1 hc1;have HB:=Aside0.mk (Below.refl w.heap.size w);have H:((Qf7.f l0 l1).bind fun t740=>(if t740=true then (some true) else ((Qc8.f k l0).bind fun bt741=>((Qbs.f k bt741.1 bt741.2).bind fun bt746=>((Qdm.f k bt741.1 bt741.2).bind fun bt748=>((Qbc.f k bt741.1 bt741.2).bind fun bt750=>((Q1.f k bt741.1 bt741.2).bind fun bt752=>(if (bt746.2 !=bt748.2)=true then (laws_FnRowvacuation.j0 k l1 bt741.2 bt746.1 bt746.2 bt750.1 true bt741.1) else (if bt746.1=bt748.1 then (if (bt750.2 !=bt752.2)=true then (laws_FnRowvacuation.j0 k l1 bt741.2 bt746.1 bt746.2 bt750.1 true bt741.1) else (if bt750.1=bt752.1 then (laws_FnRowvacuation.j0 k l1 bt741.2 bt746.1 bt746.2 bt750.1 (bt750.2 !=bt746.2) bt741.1) else (laws_FnRowvacuation.j0 k l1 bt741.2 bt746.1 bt746.2 bt750.1 true bt741.1))) else (laws_FnRowvacuation.j0 k l1 bt741.2 bt746.1 bt746.2 bt750.1 true bt741.1))))))))))=some r:=h;clear h;obtain ⟨t740,A3,H⟩:=bs H;(try dsimp only at H)
 by_cases c4:t740=true
 ·
  subst c4;rw [if_pos rfl] at H;obtain rfl:=Option.some.inj H;go_enter Tryz.func3,Tryz.ntmps3;go_wp2_with ((with_reducible refine gt ?_);first|(refine gA (some 72) Tryz.func10 #[.slice A0 l0.length c0, .slice A1 l1.length c1] ?_;(with_reducible refine (Qf7.calls _ _ l0 _ _ l1 true _ (uC HR0) HC0.out (uC HR1) HC1.out A3.out).mono ?_);rintro e w' ⟨rfl,⟨nd,rfl⟩⟩;refine ⟨_,rfl,?_⟩))
  go_ret
  exact ⟨by first|rfl|(simp [Qd,Qe] <;>rfl)|(simp [*,Qd,Qe] <;>rfl),uB HB⟩
 ·
  replace c4:=Bool.eq_false_iff.mpr c4;subst c4;rw [if_neg (show ¬ (false=true) by decide)] at H;obtain ⟨⟨t741,t744⟩,A5,H⟩:=bs H;(try dsimp only at H)
  obtain ⟨⟨t746,t747⟩,A6,H⟩:=bs H;(try dsimp only at H)
  obtain ⟨⟨t748,t749⟩,A7,H⟩:=bs H;(try dsimp only at H)
  obtain ⟨⟨t750,t751⟩,A8,H⟩:=bs H;(try dsimp only at H)
  obtain ⟨⟨t752,t753⟩,A9,H⟩:=bs H;(try dsimp only at H)
  have HC10:=Aside0.mk H;clear H;go_enter Tryz.func3,Tryz.ntmps3;go_upto_region 8 with ((with_reducible refine gt ?_);first|(refine gA (some 72) Tryz.func10 #[.slice A0 l0.length c0, .slice A1 l1.length c1] ?_;(with_reducible refine (Qf7.calls _ _ l0 _ _ l1 false _ (uC HR0) HC0.out (uC HR1) HC1.out A3.out).mono ?_);rintro e w' ⟨rfl,⟨nd,rfl⟩⟩;refine ⟨_,rfl,?_⟩)|(refine gA (some 75) Tryz.func11 #[.slice A0 l0.length c0] ?_;(with_reducible refine (Qc8.calls k _ _ l0 t741 t744 _ (uC HR0) HC0.out A5.out).mono ?_);rintro e w11 ⟨v742,rfl,ho0,hb⟩;refine ⟨_,rfl,?_⟩;have HO743:=Aside0.mk (Kd.R_lower ho0 (Qp (uB HB)));replace HB:=Aside0.mk (Qa (uB HB) hb);(try clear hb ho0))|(refine bE (N:=5) (cs:= #[.slice none 0 0]) (t:=26) ?_;intro gb745 hg w12 hbox hb;replace HO743:=Aside0.mk (Kd.R_below (uR HO743) hb);have BK745:=Aside0.mk (hbox);have GW745:=Aside0.mk ((by rw [hg];exact (Qp (uB HB)):w.heap.size≤gb745));have GE745:=GW745;replace HB:=Aside0.mk (Qa (uB HB) hb);clear hb hbox hg;obtain ⟨Ao13,co13,eo13⟩:=Kd.R_slice HO743.out;subst eo13;have hcz14_0:=bC BK745;have hfz14_0:=Qf BK745.out 0)|(refine gA (some 81) Tryz.func12 #[.agg #[.slice Ao13 t741.length co13], .int .i64 t744] ?_;(with_reducible refine (Qbs.calls k _ _ t741 t744 t746 t747 _ ?side1 ?side2 A6.out).mono ?_);(case side1=>refine (Kd.R_reads' (e:=3) (base:=w.heap.size) (ok:=fun k_=>True) (n:=t741.length) (c:=co13) ?_).2.2;exact (rF HO743 BK745 (.slice Ao13 t741.length co13)));(case side2=>exact (Kd.R_reads' HO743.out).2.1);rintro e w15 ⟨rfl,hb⟩;refine ⟨_,rfl,?_⟩;replace HO743:=Aside0.mk (Kd.R_below (rF HO743 BK745 (.slice Ao13 t741.length co13)) hb);replace BK745:=Aside0.mk (Qc (g:=gb745) (o:= .cells #[.slice Ao13 t741.length co13] 26 (0,0)) bP hb);replace HB:=Aside0.mk (Qa (vB HB) hb);(try clear hb);have hcz16_0:=bC BK745;have hfz16_0:=Qf BK745.out 0)|(refine gA (some 87) Tryz.func13 #[.agg #[.slice Ao13 t741.length co13], .int .i64 t744] ?_;(with_reducible refine (Qdm.calls k _ _ t741 t744 t748 t749 _ (uE HO743) ?side2 A7.out).mono ?_);(case side2=>exact (Kd.R_reads' HO743.out).2.1);rintro e w17 ⟨rfl,hb⟩;refine ⟨_,rfl,?_⟩;replace HO743:=Aside0.mk (Kd.R_below (uR HO743) hb);replace BK745:=Aside0.mk (Qc (uK BK745) hb);replace HB:=Aside0.mk (Qa (vB HB) hb);(try clear hb);have hcz18_0:=bC BK745;have hfz18_0:=Qf BK745.out 0)|(refine gA (some 93) Tryz.func14 #[.agg #[.slice Ao13 t741.length co13], .int .i64 t744] ?_;(with_reducible refine (Qbc.calls k _ _ t741 t744 t750 t751 _ (uE HO743) ?side2 A8.out).mono ?_);(case side2=>exact (Kd.R_reads' HO743.out).2.1);rintro e w19 ⟨rfl,hb⟩;refine ⟨_,rfl,?_⟩;replace HO743:=Aside0.mk (Kd.R_below (uR HO743) hb);replace BK745:=Aside0.mk (Qc (uK BK745) hb);replace HB:=Aside0.mk (Qa (vB HB) hb);(try clear hb);have hcz20_0:=bC BK745;have hfz20_0:=Qf BK745.out 0)|(refine gA (some 99) Tryz.func15 #[.agg #[.slice Ao13 t741.length co13], .int .i64 t744] ?_;(with_reducible refine (Q1.calls k _ _ t741 t744 t752 t753 _ (uE HO743) ?side2 A9.out).mono ?_);(case side2=>exact (Kd.R_reads' HO743.out).2.1);rintro e w21 ⟨rfl,hb⟩;refine ⟨_,rfl,?_⟩;replace HO743:=Aside0.mk (Kd.R_below (uR HO743) hb);replace BK745:=Aside0.mk (Qc (uK BK745) hb);replace HB:=Aside0.mk (Qa (vB HB) hb);(try clear hb)))
  (try simp only [Act.put,List.setIfInBounds_toArray,List.set_cons_zero,List.set_cons_succ])
  go_cut [124] (fun v124 wc=> ∃ (kq:Nat) (x124_9:Bool),v124= .bool x124_9∧Aside0 (laws_FnRowvacuation.j0 kq l1 t744 t746 t747 t750 x124_9 t741=some r)∧Aside0 (kq≤k)∧Aside0 (Kd.R (Kd.int .i64) 3 wc w.heap.size (fun _=>True) (.slice Ao13 t741.length co13) t741)∧Aside0 (wc.heap[gb745]? =some (.cells #[(.slice Ao13 t741.length co13)] 26 (0,0)))∧Aside0 (Below w.heap.size w wc))
  case first=>as_aux_lemma=>
   have H:=HC10.out;clear HC10
   by_cases c22:(t747 !=t749)=true
   ·
    rw [if_pos c22] at H;have c22b0:(t747 !=t749)=true:=c22
    (try (have c22b1:decide (t747=t749)=false:=by simpa using c22))
    (try (have c22b2:(t747==t749)=false:=by simpa using c22))
    (try (have c22b3: ¬ (t747=t749):=by simpa using c22))
    clear c22
    (first|rw [c22b0] |(simp only [Qcu,Qef];rw [c22b0])|skip)
    have H':=Aside0.mk H;clear H;go_wp2
    go_meet
    case rel=>exact ⟨_,(true),(by first|rfl|(simp;done)|(simp [*];done)),H',⟨by first|omega|exact Nat.le_refl _⟩,⟨uR HO743⟩,⟨uK BK745⟩,⟨(vB HB)⟩⟩
   ·
    rw [if_neg c22] at H;have c22b0:(t747 !=t749)=false:=by simpa using c22
    (try (have c22b1:decide (t747=t749)=true:=by simpa using c22))
    (try (have c22b2:(t747==t749)=true:=by simpa using c22))
    clear c22
    (first|rw [c22b0] |(simp only [Qcu,Qef];rw [c22b0])|skip)
    by_cases c23:t746=t748
    ·
     rw [if_pos c23] at H;have c23b0:(t746==t748)=true:=beq_iff_eq.mpr c23;have c23b1:(t746 !=t748)=false:=bne_eq_false_iff_eq.mpr c23;clear c23
     by_cases c24:(t751 !=t753)=true
     ·
      as_aux_lemma=>
      rw [if_pos c24] at H;have c24b0:(t751 !=t753)=true:=c24
      (try (have c24b1:decide (t751=t753)=false:=by simpa using c24))
      (try (have c24b2:(t751==t753)=false:=by simpa using c24))
      (try (have c24b3: ¬ (t751=t753):=by simpa using c24))
      clear c24;have H':=Aside0.mk H;clear H;go_wp2
      go_meet
      case rel=>exact ⟨_,(true),(by first|rfl|(simp;done)|(simp [*];done)),H',⟨by first|omega|exact Nat.le_refl _⟩,⟨uR HO743⟩,⟨uK BK745⟩,⟨(vB HB)⟩⟩
     ·
      rw [if_neg c24] at H;have c24b0:(t751 !=t753)=false:=by simpa using c24
      (try (have c24b1:decide (t751=t753)=true:=by simpa using c24))
      (try (have c24b2:(t751==t753)=true:=by simpa using c24))
      clear c24
      by_cases c25:t750=t752
      ·
       rw [if_pos c25] at H;have c25b0:(t750==t752)=true:=beq_iff_eq.mpr c25;have c25b1:(t750 !=t752)=false:=bne_eq_false_iff_eq.mpr c25;clear c25;have H':=Aside0.mk H;clear H;go_wp2
       go_meet
       case rel=>exact ⟨_,((t751 !=t747)),(by first|rfl|(simp;done)|(simp [*];done)),H',⟨by first|omega|exact Nat.le_refl _⟩,⟨uR HO743⟩,⟨uK BK745⟩,⟨(vB HB)⟩⟩
      ·
       rw [if_neg c25] at H;have c25b0:(t750==t752)=false:=beq_eq_false_iff_ne.mpr c25;have c25b1:(t750 !=t752)=true:=bne_iff_ne.mpr c25;have H':=Aside0.mk H;clear H;go_wp2
       go_meet
       case rel=>exact ⟨_,(true),(by first|rfl|(simp;done)|(simp [*];done)),H',⟨by first|omega|exact Nat.le_refl _⟩,⟨uR HO743⟩,⟨uK BK745⟩,⟨(vB HB)⟩⟩
    ·
     rw [if_neg c23] at H;have c23b0:(t746==t748)=false:=beq_eq_false_iff_ne.mpr c23;have c23b1:(t746 !=t748)=true:=bne_iff_ne.mpr c23;have H':=Aside0.mk H;clear H;go_wp2
     go_meet
     case rel=>exact ⟨_,(true),(by first|rfl|(simp;done)|(simp [*];done)),H',⟨by first|omega|exact Nat.le_refl _⟩,⟨uR HO743⟩,⟨uK BK745⟩,⟨(vB HB)⟩⟩
  case rest=>as_aux_lemma=>
   clear HC10
   try clear hcz14_0 hcz16_0 hcz18_0 hcz20_0 hfz14_0 hfz16_0 hfz18_0 hfz20_0
   obtain ⟨kq,x124_9,rfl,HA,HJ9,HO_746000,BK745,HB⟩:=hcut;cases kq with
   |zero=>exact absurd HA.out (by simp [laws_FnRowvacuation.j0])
   |succ kj9=>
    have H:=HA.out;clear HA;simp only [laws_FnRowvacuation.j0] at H
    by_cases c26:x124_9=true
    ·
     subst c26;rw [if_pos rfl] at H;exact absurd H (by simp)
    ·
     replace c26:=Bool.eq_false_iff.mpr c26;subst c26;rw [if_neg (show ¬ (false=true) by decide)] at H;have HC27:=Aside0.mk H;clear H
     go_upto_if 125 with (fail)
     go_cut [] (fun wc=> ∃ (kq:Nat),Aside0 (laws_FnRowvacuation.j1 kq l1=some r)∧Aside0 (kq≤kj9)∧Aside0 (Kd.R (Kd.int .i64) 3 wc w.heap.size (fun _=>True) (.slice Ao13 t741.length co13) t741)∧Aside0 (wc.heap[gb745]? =some (.cells #[(.slice Ao13 t741.length co13)] 26 (0,0)))∧Aside0 (Below w.heap.size w wc))
     case first=>as_aux_lemma=>
      have H:=HC27.out;clear HC27
      by_cases c28:t747=true
      ·
       subst c28;rw [if_pos rfl] at H;obtain ⟨⟨t754,t755⟩,A29,H⟩:=bs H;(try dsimp only at H)
       obtain ⟨⟨t756,t757⟩,A30,H⟩:=bs H;(try dsimp only at H)
       obtain ⟨⟨t758,t759⟩,A31,H⟩:=bs H;(try dsimp only at H)
       obtain ⟨⟨t760,t761⟩,A32,H⟩:=bs H;(try dsimp only at H)
       obtain ⟨⟨t762,t763⟩,A33,H⟩:=bs H;(try dsimp only at H)
       obtain ⟨⟨t764,t765⟩,A34,H⟩:=bs H;(try dsimp only at H)
       obtain ⟨⟨t766,t767⟩,A35,H⟩:=bs H;(try dsimp only at H)
       obtain ⟨⟨t768,t771⟩,A36,H⟩:=bs H;(try dsimp only at H)
       obtain ⟨⟨t772,t773⟩,A37,H⟩:=bs H;(try dsimp only at H)
       obtain ⟨⟨t774,t775⟩,A38,H⟩:=bs H;(try dsimp only at H)
       by_cases c39:t755=true
       ·
        subst c39;rw [if_pos rfl] at H
        by_cases c40:t754=t744
        ·
         rw [if_pos c40] at H;have c40b0:(t754==t744)=true:=beq_iff_eq.mpr c40;have c40b1:(t754 !=t744)=false:=bne_eq_false_iff_eq.mpr c40;clear c40
         (first|rw [c40b0] |(simp only [Qcu,Qef];rw [c40b0])|skip)
         by_cases c41:t757=true
         ·
          subst c41;rw [if_pos rfl] at H
          by_cases c42:t756=t744
          ·
           as_aux_lemma=>
           rw [if_pos c42] at H;have c42b0:(t756==t744)=true:=beq_iff_eq.mpr c42;have c42b1:(t756 !=t744)=false:=bne_eq_false_iff_eq.mpr c42;clear c42
           by_cases c43:t759=true
           ·
            subst c43;rw [if_pos rfl] at H
            by_cases c44:t761=true
            ·
             subst c44;rw [if_pos rfl] at H
             by_cases c45:t763=true
             ·
              subst c45;rw [if_pos rfl] at H
              by_cases c46:t762=t746
              ·
               rw [if_pos c46] at H;have c46b0:(t762==t746)=true:=beq_iff_eq.mpr c46;have c46b1:(t762 !=t746)=false:=bne_eq_false_iff_eq.mpr c46;clear c46
               by_cases c47:t765=true
               ·
                as_aux_lemma=>
                subst c47;rw [if_pos rfl] at H
                by_cases c48:t767=true
                ·
                 subst c48;rw [if_pos rfl] at H
                 by_cases c49:t766=t750
                 ·
                  rw [if_pos c49] at H;have c49b0:(t766==t750)=true:=beq_iff_eq.mpr c49;have c49b1:(t766 !=t750)=false:=bne_eq_false_iff_eq.mpr c49;clear c49
                  by_cases c50:t771=true
                  ·
                   subst c50;rw [if_pos rfl] at H
                   by_cases c51:t773=true
                   ·
                    subst c51;rw [if_pos rfl] at H
                    by_cases c52:t775=true
                    ·
                     as_aux_lemma=>
                     subst c52;rw [if_pos rfl] at H
                     by_cases c53:t772=t774
                     ·
                      rw [if_pos c53] at H;have c53b0:(t772==t774)=true:=beq_iff_eq.mpr c53;have c53b1:(t772 !=t774)=false:=bne_eq_false_iff_eq.mpr c53;clear c53;have H':=Aside0.mk H;clear H;have hcz54_0:=bC BK745;have hfz54_0:=Qf BK745.out 0;go_wp2_with ((with_reducible refine gt ?_);first|(refine gA (some 129) Tryz.func12 #[.agg #[.slice Ao13 t741.length co13], .int .i64 t746] ?_;(with_reducible refine (Qbs.calls kj9 _ _ t741 t746 t754 true _ (uE HO_746000) ?side2 A29.out).mono ?_);(case side2=>exact (Kd.R_reads' HO_746000.out).2.1);rintro e w55 ⟨rfl,hb⟩;refine ⟨_,rfl,?_⟩;replace HO_746000:=Aside0.mk (Kd.R_below (uR HO_746000) hb);replace BK745:=Aside0.mk (Qc (uK BK745) hb);replace HB:=Aside0.mk (Qa (vB HB) hb);(try clear hb);have hcz56_0:=bC BK745;have hfz56_0:=Qf BK745.out 0)|(refine gA (some 135) Tryz.func14 #[.agg #[.slice Ao13 t741.length co13], .int .i64 t750] ?_;(with_reducible refine (Qbc.calls kj9 _ _ t741 t750 t756 true _ (uE HO_746000) ?side2 A30.out).mono ?_);(case side2=>exact (Kd.R_reads' HO_746000.out).2.1);rintro e w57 ⟨rfl,hb⟩;refine ⟨_,rfl,?_⟩;replace HO_746000:=Aside0.mk (Kd.R_below (uR HO_746000) hb);replace BK745:=Aside0.mk (Qc (uK BK745) hb);replace HB:=Aside0.mk (Qa (vB HB) hb);(try clear hb);have hcz58_0:=bC BK745;have hfz58_0:=Qf BK745.out 0)|(refine gA (some 141) Tryz.func16 #[.agg #[.slice Ao13 t741.length co13], .int .i64 t744] ?_;(with_reducible refine (Qdb.calls kj9 _ _ t741 t744 t758 true _ (uE HO_746000) ?side2 A31.out).mono ?_);(case side2=>exact (Kd.R_reads' HO_746000.out).2.1);rintro e w59 ⟨rfl,hb⟩;refine ⟨_,rfl,?_⟩;replace HO_746000:=Aside0.mk (Kd.R_below (uR HO_746000) hb);replace BK745:=Aside0.mk (Qc (uK BK745) hb);replace HB:=Aside0.mk (Qa (vB HB) hb);(try clear hb);have hcz60_0:=bC BK745;have hfz60_0:=Qf BK745.out 0)|(refine gA (some 147) Tryz.func12 #[.agg #[.slice Ao13 t741.length co13], .int .i64 t758] ?_;(with_reducible refine (Qbs.calls kj9 _ _ t741 t758 t760 true _ (uE HO_746000) ?side2 A32.out).mono ?_);(case side2=>exact (Kd.R_reads' HO_746000.out).2.1);rintro e w61 ⟨rfl,hb⟩;refine ⟨_,rfl,?_⟩;replace HO_746000:=Aside0.mk (Kd.R_below (uR HO_746000) hb);replace BK745:=Aside0.mk (Qc (uK BK745) hb);replace HB:=Aside0.mk (Qa (vB HB) hb);(try clear hb);have hcz62_0:=bC BK745;have hfz62_0:=Qf BK745.out 0)|(refine gA (some 153) Tryz.func16 #[.agg #[.slice Ao13 t741.length co13], .int .i64 t760] ?_;(with_reducible refine (Qdb.calls kj9 _ _ t741 t760 t762 true _ (uE HO_746000) ?side2 A33.out).mono ?_);(case side2=>exact (Kd.R_reads' HO_746000.out).2.1);rintro e w63 ⟨rfl,hb⟩;refine ⟨_,rfl,?_⟩;replace HO_746000:=Aside0.mk (Kd.R_below (uR HO_746000) hb);replace BK745:=Aside0.mk (Qc (uK BK745) hb);replace HB:=Aside0.mk (Qa (vB HB) hb);(try clear hb);have hcz64_0:=bC BK745;have hfz64_0:=Qf BK745.out 0)|(refine gA (some 159) Tryz.func14 #[.agg #[.slice Ao13 t741.length co13], .int .i64 t758] ?_;(with_reducible refine (Qbc.calls kj9 _ _ t741 t758 t764 true _ (uE HO_746000) ?side2 A34.out).mono ?_);(case side2=>exact (Kd.R_reads' HO_746000.out).2.1);rintro e w65 ⟨rfl,hb⟩;refine ⟨_,rfl,?_⟩;replace HO_746000:=Aside0.mk (Kd.R_below (uR HO_746000) hb);replace BK745:=Aside0.mk (Qc (uK BK745) hb);replace HB:=Aside0.mk (Qa (vB HB) hb);(try clear hb);have hcz66_0:=bC BK745;have hfz66_0:=Qf BK745.out 0)|(refine gA (some 165) Tryz.func16 #[.agg #[.slice Ao13 t741.length co13], .int .i64 t764] ?_;(with_reducible refine (Qdb.calls kj9 _ _ t741 t764 t766 true _ (uE HO_746000) ?side2 A35.out).mono ?_);(case side2=>exact (Kd.R_reads' HO_746000.out).2.1);rintro e w67 ⟨rfl,hb⟩;refine ⟨_,rfl,?_⟩;replace HO_746000:=Aside0.mk (Kd.R_below (uR HO_746000) hb);replace BK745:=Aside0.mk (Qc (uK BK745) hb);replace HB:=Aside0.mk (Qa (vB HB) hb);(try clear hb);have hcz68_0:=bC BK745;have hfz68_0:=Qf BK745.out 0)|(refine gA (some 170) Tryz.func17 #[.agg #[.slice Ao13 t741.length co13]] ?_;(with_reducible refine (Qeb.calls kj9 _ _ t741 t768 true _ (uE HO_746000) ?side2 A36.out).mono ?_);(case side2=>exact (Kd.R_reads' HO_746000.out).2.1);rintro e w69 ⟨v769,rfl,ho0,hb⟩;refine ⟨_,rfl,?_⟩;have HO770:=Aside0.mk (Kd.R_lower (Kd.R_new' ho0 (Kd.R_lt (uR HO_746000))) (Qp (vB HB)));replace HO_746000:=Aside0.mk (Kd.R_elder' (uR HO_746000) (Kd.R_base ho0) hb);replace BK745:=Aside0.mk (Qc (uK BK745) hb);replace HB:=Aside0.mk (Qa (vB HB) hb);(try clear hb ho0);have hcz70_0:=bC BK745;have hfz70_0:=Qf BK745.out 0)|(refine gA (some 176) Tryz.func14 #[.agg #[.slice Ao13 t741.length co13], .int .i64 t746] ?_;(with_reducible refine (Qbc.calls kj9 _ _ t741 t746 t772 true _ (uE HO_746000) ?side2 A37.out).mono ?_);(case side2=>exact (Kd.R_reads' HO_746000.out).2.1);rintro e w71 ⟨rfl,hb⟩;refine ⟨_,rfl,?_⟩;replace HO_746000:=Aside0.mk (Kd.R_below (uR HO_746000) hb);replace HO770:=Aside0.mk (Kd.R_below (uR HO770) hb);replace BK745:=Aside0.mk (Qc (uK BK745) hb);replace HB:=Aside0.mk (Qa (vB HB) hb);(try clear hb);have hcz72_0:=bC BK745;have hfz72_0:=Qf BK745.out 0;obtain ⟨Ao73,co73,eo73⟩:=Kd.R_slice HO770.out;subst eo73)|(refine gA (some 185) Tryz.func18 #[.agg #[.slice Ao13 t741.length co13], .int .i64 t744, .int .i64 (wrap64 ((t768.length:Int)+1))] ?_;(with_reducible refine (Qc1.calls kj9 _ _ t741 t744 (wrap64 ((t768.length:Int)+1)) t774 true _ (uE HO_746000) ?side2 A38.out).mono ?_);(case side2=>exact (Kd.R_reads' HO_746000.out).2.1);rintro e w74 ⟨rfl,hb⟩;refine ⟨_,rfl,?_⟩;replace HO_746000:=Aside0.mk (Kd.R_below (uR HO_746000) hb);replace HO770:=Aside0.mk (Kd.R_below (uR HO770) hb);replace BK745:=Aside0.mk (Qc (uK BK745) hb);replace HB:=Aside0.mk (Qa (vB HB) hb);(try clear hb)))
                      go_meet
                      case rel=>exact ⟨_,H',⟨by have:=HJ9.out;first|omega|exact Nat.le_refl _⟩,⟨Kd.R_mono (uR HO_746000) (fun _ hk=>trivial)⟩,⟨uK BK745⟩,⟨(vB HB)⟩⟩
                     ·
                      rw [if_neg c53] at H;exact absurd H (by simp)
                    ·
                     replace c52:=Bool.eq_false_iff.mpr c52;subst c52;rw [if_neg (show ¬ (false=true) by decide)] at H;exact absurd H (by simp)
                   ·
                    replace c51:=Bool.eq_false_iff.mpr c51;subst c51;rw [if_neg (show ¬ (false=true) by decide)] at H;exact absurd H (by simp)
                  ·
                   replace c50:=Bool.eq_false_iff.mpr c50;subst c50;rw [if_neg (show ¬ (false=true) by decide)] at H;exact absurd H (by simp)
                 ·
                  rw [if_neg c49] at H;exact absurd H (by simp)
                ·
                 replace c48:=Bool.eq_false_iff.mpr c48;subst c48;rw [if_neg (show ¬ (false=true) by decide)] at H;exact absurd H (by simp)
               ·
                replace c47:=Bool.eq_false_iff.mpr c47;subst c47;rw [if_neg (show ¬ (false=true) by decide)] at H;exact absurd H (by simp)
              ·
               rw [if_neg c46] at H;exact absurd H (by simp)
             ·
              replace c45:=Bool.eq_false_iff.mpr c45;subst c45;rw [if_neg (show ¬ (false=true) by decide)] at H;exact absurd H (by simp)
            ·
             replace c44:=Bool.eq_false_iff.mpr c44;subst c44;rw [if_neg (show ¬ (false=true) by decide)] at H;exact absurd H (by simp)
           ·
            replace c43:=Bool.eq_false_iff.mpr c43;subst c43;rw [if_neg (show ¬ (false=true) by decide)] at H;exact absurd H (by simp)
          ·
           rw [if_neg c42] at H;exact absurd H (by simp)
         ·
          replace c41:=Bool.eq_false_iff.mpr c41;subst c41;rw [if_neg (show ¬ (false=true) by decide)] at H;exact absurd H (by simp)
        ·
         rw [if_neg c40] at H;exact absurd H (by simp)
       ·
        replace c39:=Bool.eq_false_iff.mpr c39;subst c39;rw [if_neg (show ¬ (false=true) by decide)] at H;exact absurd H (by simp)
      ·
       replace c28:=Bool.eq_false_iff.mpr c28;subst c28;rw [if_neg (show ¬ (false=true) by decide)] at H;have H':=Aside0.mk H;clear H;go_wp2
       go_meet
       case rel=>exact ⟨_,H',⟨by have:=HJ9.out;first|omega|exact Nat.le_refl _⟩,⟨uR HO_746000⟩,⟨uK BK745⟩,⟨(vB HB)⟩⟩
     case rest=>as_aux_lemma=>
      clear HC27
      skip
      obtain ⟨kq,HA,HJ26,HO_746000,BK745,HB⟩:=hcut;cases kq with
      |zero=>exact absurd HA.out (by simp [laws_FnRowvacuation.j1])
      |succ kj26=>
       have H:=HA.out;clear HA;simp only [laws_FnRowvacuation.j1] at H;obtain ⟨t776,A75,H⟩:=bs H;(try dsimp only at H)
       obtain ⟨⟨t780,t783⟩,A76,H⟩:=bs H;(try dsimp only at H)
       obtain ⟨⟨t784,t787⟩,A77,H⟩:=bs H;(try dsimp only at H)
       have HC78:=Aside0.mk H;clear H;go_upto_region 26 with ((with_reducible refine gt ?_);first|(refine gA (some 252) Tryz.func19 #[.slice A1 l1.length c1] ?_;(with_reducible refine (Qbh.calls kj26 _ _ l1 t776 _ (uD HR1 HB) HC1.out A75.out).mono ?_);rintro e w79 ⟨v777,rfl,ho0,hb⟩;refine ⟨_,rfl,?_⟩;have HO778:=Aside0.mk (Kd.R_lower (Kd.R_new' ho0 (Kd.R_lt (uR HO_746000))) (Qp (vB HB)));replace HO_746000:=Aside0.mk (Kd.R_elder' (uR HO_746000) (Kd.R_base ho0) hb);replace BK745:=Aside0.mk (Qc (uK BK745) hb);replace HB:=Aside0.mk (Qa (vB HB) hb);(try clear hb ho0))|(refine bE (N:=35) (cs:= #[.slice none 0 0]) (t:=26) ?_;intro gb779 hg w80 hbox hb;replace HO_746000:=Aside0.mk (Kd.R_below (uR HO_746000) hb);replace HO778:=Aside0.mk (Kd.R_below (uR HO778) hb);have BK779:=Aside0.mk (hbox);have GW779:=Aside0.mk ((by rw [hg];exact (Qp (vB HB)):w.heap.size≤gb779));have GE779:=GW779;replace HB:=Aside0.mk (Qa (vB HB) hb);have NB745_779:=Aside0.mk ((by rw [hg];exact Nat.ne_of_lt (Qcc (uK BK745)):gb745≠gb779));have NB779_745:=Aside0.mk ((by rw [hg];exact Nat.ne_of_gt (Qcc (uK BK745)):gb779≠gb745));replace BK745:=Aside0.mk (Qc (uK BK745) hb);clear hb hbox hg;obtain ⟨Ao81,co81,eo81⟩:=Kd.R_slice HO778.out;subst eo81;have hnb82:=NB779_745.out;have hnc82:=NB745_779.out;have hcz83_0:=bC BK779;have hfz83_0:=Qf BK779.out 0)|(refine gA (some 255) Tryz.func20 #[.agg #[.slice Ao81 t776.length co81]] ?_;(with_reducible refine (Qdc.calls kj26 _ _ t776 t780 t783 _ ?side1 ?side2 A76.out).mono ?_);(case side1=>refine (Kd.R_reads' (e:=3) (base:=w.heap.size) (ok:=fun k_=>(True∧some k_≠(.slice Ao13 t741.length co13:Value).ownBlock)) (n:=t776.length) (c:=co81) ?_).2.2;exact (rF HO778 BK779 (.slice Ao81 t776.length co81)));(case side2=>exact (Kd.R_reads' HO778.out).2.1);rintro e w84 ⟨v781,rfl,ho0,hb⟩;refine ⟨_,rfl,?_⟩;have HO782:=Aside0.mk (Kd.R_lower (Kd.R_new' (Kd.R_new' ho0 (Kd.R_lt (rF HO_746000 BK779 (.slice Ao81 t776.length co81)))) (Kd.R_lt (rF HO778 BK779 (.slice Ao81 t776.length co81)))) (Qp (vB HB)));replace HO_746000:=Aside0.mk (Kd.R_elder' (rF HO_746000 BK779 (.slice Ao81 t776.length co81)) (Kd.R_base ho0) hb);replace HO778:=Aside0.mk (Kd.R_elder' (rF HO778 BK779 (.slice Ao81 t776.length co81)) (Kd.R_base ho0) hb);replace BK745:=Aside0.mk (Qc (g:=gb745) (o:= .cells #[.slice Ao13 t741.length co13] 26 (0,0)) kF hb);replace BK779:=Aside0.mk (Qc (g:=gb779) (o:= .cells #[.slice Ao81 t776.length co81] 26 (0,0)) bP hb);replace HB:=Aside0.mk (Qa (vB HB) hb);(try clear hb ho0);have hcz85_0:=bC BK779;have hfz85_0:=Qf BK779.out 0)|(refine gA (some 260) Tryz.func21 #[.agg #[.slice Ao81 t776.length co81]] ?_;(with_reducible refine (Qdd.calls kj26 _ _ t776 t784 t787 _ (uE HO778) ?side2 A77.out).mono ?_);(case side2=>exact (Kd.R_reads' HO778.out).2.1);rintro e w86 ⟨v785,rfl,ho0,hb⟩;refine ⟨_,rfl,?_⟩;have HO786:=Aside0.mk (Kd.R_lower (Kd.R_new' (Kd.R_new' (Kd.R_new' ho0 (Kd.R_lt (uR HO_746000))) (Kd.R_lt (uR HO778))) (Kd.R_lt (uR HO782))) (Qp (vB HB)));replace HO_746000:=Aside0.mk (Kd.R_elder' (uR HO_746000) (Kd.R_base ho0) hb);replace HO778:=Aside0.mk (Kd.R_elder' (uR HO778) (Kd.R_base ho0) hb);replace HO782:=Aside0.mk (Kd.R_elder' (uR HO782) (Kd.R_base ho0) hb);replace BK745:=Aside0.mk (Qc (uK BK745) hb);replace BK779:=Aside0.mk (Qc (uK BK779) hb);replace HB:=Aside0.mk (Qa (vB HB) hb);(try clear hb ho0)))
       (try simp only [Act.put,List.setIfInBounds_toArray,List.set_cons_zero,List.set_cons_succ])
       go_cut [271] (fun v271 wc=> ∃ (kq:Nat) (x271_77:Bool),v271= .bool x271_77∧Aside0 (laws_FnRowvacuation.j2 kq l1 t780 t783 x271_77 t776=some r)∧Aside0 (kq≤kj26)∧Aside0 (Kd.R (Kd.int .i64) 3 wc w.heap.size (fun k_=>some k_≠((.slice Ao13 t741.length co13):Value).ownBlock∧some k_≠((.slice Ao81 t776.length co81):Value).ownBlock) v781 t780)∧Aside0 (Kd.R (Kd.int .i64) 3 wc w.heap.size (fun k_=>some k_≠(v781:Value).ownBlock∧some k_≠((.slice Ao81 t776.length co81):Value).ownBlock) (.slice Ao13 t741.length co13) t741)∧Aside0 (Kd.R (Kd.int .i64) 3 wc w.heap.size (fun k_=>some k_≠(v781:Value).ownBlock∧some k_≠((.slice Ao13 t741.length co13):Value).ownBlock) (.slice Ao81 t776.length co81) t776)∧Aside0 (wc.heap[gb745]? =some (.cells #[(.slice Ao13 t741.length co13)] 26 (0,0)))∧Aside0 (wc.heap[gb779]? =some (.cells #[(.slice Ao81 t776.length co81)] 26 (0,0)))∧Aside0 (Below w.heap.size w wc))
       case first=>as_aux_lemma=>
        have H:=HC78.out;clear HC78
        by_cases c87:(t783 !=t787)=true
        ·
         rw [if_pos c87] at H;have c87b0:(t783 !=t787)=true:=c87
         (try (have c87b1:decide (t783=t787)=false:=by simpa using c87))
         (try (have c87b2:(t783==t787)=false:=by simpa using c87))
         (try (have c87b3: ¬ (t783=t787):=by simpa using c87))
         clear c87
         (first|rw [c87b0] |(simp only [Qcu,Qef];rw [c87b0])|skip)
         have H':=Aside0.mk H;clear H;go_wp2
         go_meet
         case rel=>exact ⟨_,(true),(by first|rfl|(simp;done)|(simp [*];done)),H',⟨by have:=HJ9.out;have:=HJ26.out;first|omega|exact Nat.le_refl _⟩,⟨Kd.R_mono (uR HO782) (fun _ hk=>⟨hk.1.1.2,hk.1.2⟩)⟩,⟨Kd.R_mono (uR HO_746000) (fun _ hk=>⟨hk.1.2,hk.1.1.2⟩)⟩,⟨Kd.R_mono (uR HO778) (fun _ hk=>⟨hk.1.2,hk.1.1.2⟩)⟩,⟨uK BK745⟩,⟨uK BK779⟩,⟨(vB HB)⟩⟩
        ·
         rw [if_neg c87] at H;have c87b0:(t783 !=t787)=false:=by simpa using c87
         (try (have c87b1:decide (t783=t787)=true:=by simpa using c87))
         (try (have c87b2:(t783==t787)=true:=by simpa using c87))
         clear c87
         (first|rw [c87b0] |(simp only [Qcu,Qef];rw [c87b0])|skip)
         obtain ⟨t788,A88,H⟩:=bs H;(try dsimp only at H)
         have H':=Aside0.mk H;clear H;obtain ⟨Ao89,co89,eo89⟩:=Kd.R_slice HO782.out;subst eo89;obtain ⟨Ao90,co90,eo90⟩:=Kd.R_slice HO786.out;subst eo90;go_wp2_with (first|(go_at_call 22;(with_reducible refine (Qcw.calls kj26 _ _ t780 _ _ t784 t788 _ (uE HO782) ?side2 (uE HO786) ?side4 A88.out).mono ?_);(case side2=>exact (Kd.R_reads' HO782.out).2.1);(case side4=>exact (Kd.R_reads' HO786.out).2.1);rintro e w' ⟨rfl,⟨nd,rfl⟩⟩))
         go_meet
         case rel=>exact ⟨_,(!t788),(by first|rfl|(simp;done)|(simp [*];done)),H',⟨by have:=HJ9.out;have:=HJ26.out;first|omega|exact Nat.le_refl _⟩,⟨Kd.R_mono (uR HO782) (fun _ hk=>⟨hk.1.1.2,hk.1.2⟩)⟩,⟨Kd.R_mono (uR HO_746000) (fun _ hk=>⟨hk.1.2,hk.1.1.2⟩)⟩,⟨Kd.R_mono (uR HO778) (fun _ hk=>⟨hk.1.2,hk.1.1.2⟩)⟩,⟨uK BK745⟩,⟨uK BK779⟩,⟨(vB HB)⟩⟩
       case rest=>as_aux_lemma=>
        clear HC78
        try clear hcz83_0 hcz85_0 hfz83_0 hfz85_0
        obtain ⟨kq,x271_77,rfl,HA,HJ77,HO_36,HO_746000,HO_780000,BK745,BK779,HB⟩:=hcut;cases kq with
        |zero=>exact absurd HA.out (by simp [laws_FnRowvacuation.j2])
        |succ kj77=>
         have H:=HA.out;clear HA;simp only [laws_FnRowvacuation.j2] at H
         by_cases c91:x271_77=true
         ·
          subst c91;rw [if_pos rfl] at H;exact absurd H (by simp)
         ·
          replace c91:=Bool.eq_false_iff.mpr c91;subst c91;rw [if_neg (show ¬ (false=true) by decide)] at H;have HC92:=Aside0.mk H;clear H
          go_upto_if 272 with (fail)
          go_cut [] (fun wc=> ∃ (kq:Nat),Aside0 (laws_FnRowvacuation.j3 kq l1=some r)∧Aside0 (kq≤kj77)∧Aside0 (Kd.R (Kd.int .i64) 3 wc w.heap.size (fun k_=>some k_≠((.slice Ao81 t776.length co81):Value).ownBlock) (.slice Ao13 t741.length co13) t741)∧Aside0 (Kd.R (Kd.int .i64) 3 wc w.heap.size (fun k_=>some k_≠((.slice Ao13 t741.length co13):Value).ownBlock) (.slice Ao81 t776.length co81) t776)∧Aside0 (wc.heap[gb745]? =some (.cells #[(.slice Ao13 t741.length co13)] 26 (0,0)))∧Aside0 (wc.heap[gb779]? =some (.cells #[(.slice Ao81 t776.length co81)] 26 (0,0)))∧Aside0 (Below w.heap.size w wc))
          case first=>as_aux_lemma=>
           have H:=HC92.out;clear HC92
           by_cases c93:t783=true
           ·
            subst c93;rw [if_pos rfl] at H;obtain ⟨ji94,hji94⟩: ∃ j_:Int,(shl .i64 1 (t776.length:Int))=j_:=⟨_,rfl⟩
            replace H:((Qce.f kj77 t776 (wrap64 ((ji94) - 1)) t780).bind fun bt789=>((Qbs.f kj77 t776 (wrap64 ((ji94) - 1))).bind fun bt791=>(if bt789.2=true then (if bt791.2=true then (if bt789.1=bt791.1 then (laws_FnRowvacuation.j3 kj77 l1) else (none)) else (none)) else (none))))=some r:=by first|(rw [hji94] at H;exact H)|(simp only [hji94] at H ⊢;exact H)
            have hji94_:(IntKind.i64.wrap (1*2 ^ min (t776.length:Int).toNat 64))=ji94:=hji94;have hji94z:(t776.length:Int)≤64→(IntKind.i64.wrap (1*2 ^ (t776.length:Int).toNat))=ji94:=Qd1 hji94;have hji94p:(IntKind.i64.wrap (1*2 ^ min t776.length 64))=ji94:=hji94_;have hji94q:(t776.length:Int)≤64→(IntKind.i64.wrap (1*2 ^ t776.length))=ji94:=hji94z;have hji94r:(IntKind.i64.wrap (2 ^ min t776.length 64))=ji94:=by have h_:=hji94p;rw [Int.one_mul] at h_;exact h_
            have hji94s:(t776.length:Int)≤64→(IntKind.i64.wrap (2 ^ t776.length))=ji94:=fun hle_=>by have h_:=hji94q hle_;rw [Int.one_mul] at h_;exact h_
            have hji94u:(IntKind.i64.wrap (2 ^ min (t776.length:Int).toNat 64))=ji94:=by have h_:=hji94_;rw [Int.one_mul] at h_;exact h_
            have hji94v:(t776.length:Int)≤64→(IntKind.i64.wrap (2 ^ (t776.length:Int).toNat))=ji94:=fun hle_=>by have h_:=hji94z hle_;rw [Int.one_mul] at h_;exact h_
            have hji94y:(wrap64 (1*2 ^ min (t776.length:Int).toNat 64))=ji94:=(Qcu _).symm.trans hji94_;have hji94x:(t776.length:Int)≤64→(wrap64 (1*2 ^ (t776.length:Int).toNat))=ji94:=fun h_=>(Qcu _).symm.trans (hji94z h_)
            obtain ⟨⟨t789,t790⟩,A95,H⟩:=bs H;(try dsimp only at H)
            obtain ⟨⟨t791,t792⟩,A96,H⟩:=bs H;(try dsimp only at H)
            by_cases c97:t790=true
            ·
             subst c97;rw [if_pos rfl] at H
             by_cases c98:t792=true
             ·
              subst c98;rw [if_pos rfl] at H
              by_cases c99:t789=t791
              ·
               rw [if_pos c99] at H;have c99b0:(t789==t791)=true:=beq_iff_eq.mpr c99;have c99b1:(t789 !=t791)=false:=bne_eq_false_iff_eq.mpr c99;clear c99
               (first|rw [c99b0] |(simp only [Qcu,Qef];rw [c99b0])|skip)
               have H':=Aside0.mk H;clear H;have hnb100:=NB779_745.out;have hnc100:=NB745_779.out;have hcz101_0:=bC BK779;have hfz101_0:=Qf BK779.out 0;obtain ⟨Ao102,co102,eo102⟩:=Kd.R_slice HO_36.out;subst eo102;go_wp2_with (first|((with_reducible refine Qdp (f:=23) rfl ?_);refine Qeu (some 282) rfl rfl Tryz.func23 (by kernel_rfl) rfl #[.agg #[.slice Ao81 t776.length co81], .int .i64 (wrap64 ((ji94) - 1)), .slice Ao102 t780.length co102] rfl (by (try simp only [List.map_toArray,List.map_cons,List.map_nil]);first|done|(simp only [hji94];rfl)|rfl|(simp only [List.length_drop,List.length_take];rfl)) ?_;(with_reducible refine (Qce.calls kj77 _ _ t776 (wrap64 ((ji94) - 1)) _ _ t780 t789 true _ (uE HO_780000) ?side2 (uE HO_36) ?side4 A95.out).mono ?_);(case side2=>exact (Kd.R_reads' HO_780000.out).2.1);(case side4=>exact (Kd.R_reads' HO_36.out).2.1);rintro e w103 ⟨rfl,hb⟩;refine ⟨_,rfl,?_⟩;replace HO_36:=Aside0.mk (Kd.R_below (uR HO_36) hb);replace HO_746000:=Aside0.mk (Kd.R_below (uR HO_746000) hb);replace HO_780000:=Aside0.mk (Kd.R_below (uR HO_780000) hb);replace BK745:=Aside0.mk (Qc (uK BK745) hb);replace BK779:=Aside0.mk (Qc (uK BK779) hb);replace HB:=Aside0.mk (Qa (vB HB) hb);(try clear hb);have hcz104_0:=bC BK779;have hfz104_0:=Qf BK779.out 0)|((with_reducible refine Qdp (f:=12) rfl ?_);refine Qeu (some 288) rfl rfl Tryz.func12 (by kernel_rfl) rfl #[.agg #[.slice Ao81 t776.length co81], .int .i64 (wrap64 ((ji94) - 1))] rfl (by (try simp only [List.map_toArray,List.map_cons,List.map_nil]);first|done|(simp only [hji94];rfl)|rfl|(simp only [List.length_drop,List.length_take];rfl)) ?_;(with_reducible refine (Qbs.calls kj77 _ _ t776 (wrap64 ((ji94) - 1)) t791 true _ (uE HO_780000) ?side2 A96.out).mono ?_);(case side2=>exact (Kd.R_reads' HO_780000.out).2.1);rintro e w105 ⟨rfl,hb⟩;refine ⟨_,rfl,?_⟩;replace HO_36:=Aside0.mk (Kd.R_below (uR HO_36) hb);replace HO_746000:=Aside0.mk (Kd.R_below (uR HO_746000) hb);replace HO_780000:=Aside0.mk (Kd.R_below (uR HO_780000) hb);replace BK745:=Aside0.mk (Qc (uK BK745) hb);replace BK779:=Aside0.mk (Qc (uK BK779) hb);replace HB:=Aside0.mk (Qa (vB HB) hb);(try clear hb)))
               go_meet
               case rel=>exact ⟨_,H',⟨by have:=HJ9.out;have:=HJ26.out;have:=HJ77.out;first|omega|exact Nat.le_refl _⟩,⟨Kd.R_mono (uR HO_746000) (fun _ hk=>hk.2)⟩,⟨Kd.R_mono (uR HO_780000) (fun _ hk=>hk.2)⟩,⟨uK BK745⟩,⟨uK BK779⟩,⟨(vB HB)⟩⟩
              ·
               rw [if_neg c99] at H;exact absurd H (by simp)
             ·
              replace c98:=Bool.eq_false_iff.mpr c98;subst c98;rw [if_neg (show ¬ (false=true) by decide)] at H;exact absurd H (by simp)
            ·
             replace c97:=Bool.eq_false_iff.mpr c97;subst c97;rw [if_neg (show ¬ (false=true) by decide)] at H;exact absurd H (by simp)
           ·
            replace c93:=Bool.eq_false_iff.mpr c93;subst c93;rw [if_neg (show ¬ (false=true) by decide)] at H;have H':=Aside0.mk H;clear H;go_wp2
            go_meet
            case rel=>exact ⟨_,H',⟨by have:=HJ9.out;have:=HJ26.out;have:=HJ77.out;first|omega|exact Nat.le_refl _⟩,⟨Kd.R_mono (uR HO_746000) (fun _ hk=>hk.2)⟩,⟨Kd.R_mono (uR HO_780000) (fun _ hk=>hk.2)⟩,⟨uK BK745⟩,⟨uK BK779⟩,⟨(vB HB)⟩⟩
          case rest=>as_aux_lemma=>
           clear HC92
           skip
           obtain ⟨kq,HA,HJ91,HO_746000,HO_780000,BK745,BK779,HB⟩:=hcut;cases kq with
           |zero=>exact absurd HA.out (by simp [laws_FnRowvacuation.j3])
           |succ kj91=>
            have H:=HA.out;clear HA;simp only [laws_FnRowvacuation.j3] at H;obtain ⟨t793,A106,H⟩:=bs H;(try dsimp only at H)
            obtain ⟨⟨t797,t800⟩,A107,H⟩:=bs H;(try dsimp only at H)
            obtain ⟨⟨t801,t804⟩,A108,H⟩:=bs H;(try dsimp only at H)
            have HC109:=Aside0.mk H;clear H;go_upto_region 37 with ((with_reducible refine gt ?_);first|(refine gA (some 303) Tryz.func24 #[.slice A1 l1.length c1] ?_;(with_reducible refine (Qct.calls kj91 _ _ l1 t793 _ (uD HR1 HB) HC1.out A106.out).mono ?_);rintro e w110 ⟨v794,rfl,ho0,hb⟩;refine ⟨_,rfl,?_⟩;have HO795:=Aside0.mk (Kd.R_lower (Kd.R_new' (Kd.R_new' ho0 (Kd.R_lt (uR HO_746000))) (Kd.R_lt (uR HO_780000))) (Qp (vB HB)));replace HO_746000:=Aside0.mk (Kd.R_elder' (uR HO_746000) (Kd.R_base ho0) hb);replace HO_780000:=Aside0.mk (Kd.R_elder' (uR HO_780000) (Kd.R_base ho0) hb);replace BK745:=Aside0.mk (Qc (uK BK745) hb);replace BK779:=Aside0.mk (Qc (uK BK779) hb);replace HB:=Aside0.mk (Qa (vB HB) hb);(try clear hb ho0))|(refine bE (N:=45) (cs:= #[.slice none 0 0]) (t:=26) ?_;intro gb796 hg w111 hbox hb;replace HO_746000:=Aside0.mk (Kd.R_below (uR HO_746000) hb);replace HO_780000:=Aside0.mk (Kd.R_below (uR HO_780000) hb);replace HO795:=Aside0.mk (Kd.R_below (uR HO795) hb);have BK796:=Aside0.mk (hbox);have GW796:=Aside0.mk ((by rw [hg];exact (Qp (vB HB)):w.heap.size≤gb796));have GE796:=GW796;replace HB:=Aside0.mk (Qa (vB HB) hb);have NB745_796:=Aside0.mk ((by rw [hg];exact Nat.ne_of_lt (Qcc (uK BK745)):gb745≠gb796));have NB796_745:=Aside0.mk ((by rw [hg];exact Nat.ne_of_gt (Qcc (uK BK745)):gb796≠gb745));replace BK745:=Aside0.mk (Qc (uK BK745) hb);have NB779_796:=Aside0.mk ((by rw [hg];exact Nat.ne_of_lt (Qcc (uK BK779)):gb779≠gb796));have NB796_779:=Aside0.mk ((by rw [hg];exact Nat.ne_of_gt (Qcc (uK BK779)):gb796≠gb779));replace BK779:=Aside0.mk (Qc (uK BK779) hb);clear hb hbox hg;obtain ⟨Ao112,co112,eo112⟩:=Kd.R_slice HO795.out;subst eo112;have hnb113:=NB796_745.out;have hnc113:=NB745_796.out;have hnb114:=NB796_779.out;have hnc114:=NB779_796.out;have hcz115_0:=bC BK796;have hfz115_0:=Qf BK796.out 0)|(refine gA (some 306) Tryz.func25 #[.agg #[.slice Ao112 t793.length co112]] ?_;(with_reducible refine (Q8.calls kj91 _ _ t793 t797 t800 _ ?side1 ?side2 A107.out).mono ?_);(case side1=>refine (Kd.R_reads' (e:=3) (base:=w.heap.size) (ok:=fun k_=>((True∧some k_≠(.slice Ao13 t741.length co13:Value).ownBlock)∧some k_≠(.slice Ao81 t776.length co81:Value).ownBlock)) (n:=t793.length) (c:=co112) ?_).2.2;exact (rF HO795 BK796 (.slice Ao112 t793.length co112)));(case side2=>exact (Kd.R_reads' HO795.out).2.1);rintro e w116 ⟨v798,rfl,ho0,hb⟩;refine ⟨_,rfl,?_⟩;have HO799:=Aside0.mk (Kd.R_lower (Kd.R_new' (Kd.R_new' (Kd.R_new' ho0 (Kd.R_lt (rF HO_746000 BK796 (.slice Ao112 t793.length co112)))) (Kd.R_lt (rF HO_780000 BK796 (.slice Ao112 t793.length co112)))) (Kd.R_lt (rF HO795 BK796 (.slice Ao112 t793.length co112)))) (Qp (vB HB)));replace HO_746000:=Aside0.mk (Kd.R_elder' (rF HO_746000 BK796 (.slice Ao112 t793.length co112)) (Kd.R_base ho0) hb);replace HO_780000:=Aside0.mk (Kd.R_elder' (rF HO_780000 BK796 (.slice Ao112 t793.length co112)) (Kd.R_base ho0) hb);replace HO795:=Aside0.mk (Kd.R_elder' (rF HO795 BK796 (.slice Ao112 t793.length co112)) (Kd.R_base ho0) hb);replace BK745:=Aside0.mk (Qc (g:=gb745) (o:= .cells #[.slice Ao13 t741.length co13] 26 (0,0)) kF hb);replace BK779:=Aside0.mk (Qc (g:=gb779) (o:= .cells #[.slice Ao81 t776.length co81] 26 (0,0)) kF hb);replace BK796:=Aside0.mk (Qc (g:=gb796) (o:= .cells #[.slice Ao112 t793.length co112] 26 (0,0)) bP hb);replace HB:=Aside0.mk (Qa (vB HB) hb);(try clear hb ho0);have hcz117_0:=bC BK796;have hfz117_0:=Qf BK796.out 0)|(refine gA (some 311) Tryz.func26 #[.agg #[.slice Ao112 t793.length co112]] ?_;(with_reducible refine (Qbk.calls kj91 _ _ t793 t801 t804 _ (uE HO795) ?side2 A108.out).mono ?_);(case side2=>exact (Kd.R_reads' HO795.out).2.1);rintro e w118 ⟨v802,rfl,ho0,hb⟩;refine ⟨_,rfl,?_⟩;have HO803:=Aside0.mk (Kd.R_lower (Kd.R_new' (Kd.R_new' (Kd.R_new' (Kd.R_new' ho0 (Kd.R_lt (uR HO_746000))) (Kd.R_lt (uR HO_780000))) (Kd.R_lt (uR HO795))) (Kd.R_lt (uR HO799))) (Qp (vB HB)));replace HO_746000:=Aside0.mk (Kd.R_elder' (uR HO_746000) (Kd.R_base ho0) hb);replace HO_780000:=Aside0.mk (Kd.R_elder' (uR HO_780000) (Kd.R_base ho0) hb);replace HO795:=Aside0.mk (Kd.R_elder' (uR HO795) (Kd.R_base ho0) hb);replace HO799:=Aside0.mk (Kd.R_elder' (uR HO799) (Kd.R_base ho0) hb);replace BK745:=Aside0.mk (Qc (uK BK745) hb);replace BK779:=Aside0.mk (Qc (uK BK779) hb);replace BK796:=Aside0.mk (Qc (uK BK796) hb);replace HB:=Aside0.mk (Qa (vB HB) hb);(try clear hb ho0)))
            (try simp only [Act.put,List.setIfInBounds_toArray,List.set_cons_zero,List.set_cons_succ])
            go_cut [322] (fun v322 wc=> ∃ (kq:Nat) (x322_108:Bool),v322= .bool x322_108∧Aside0 (laws_FnRowvacuation.j4 kq l1 t797 x322_108 t793=some r)∧Aside0 (kq≤kj91)∧Aside0 (Kd.R (Kd.int .i64) 3 wc w.heap.size (fun k_=>some k_≠((.slice Ao13 t741.length co13):Value).ownBlock∧some k_≠((.slice Ao81 t776.length co81):Value).ownBlock∧some k_≠((.slice Ao112 t793.length co112):Value).ownBlock) v798 t797)∧Aside0 (Kd.R (Kd.int .i64) 3 wc w.heap.size (fun k_=>some k_≠(v798:Value).ownBlock∧some k_≠((.slice Ao81 t776.length co81):Value).ownBlock∧some k_≠((.slice Ao112 t793.length co112):Value).ownBlock) (.slice Ao13 t741.length co13) t741)∧Aside0 (Kd.R (Kd.int .i64) 3 wc w.heap.size (fun k_=>some k_≠(v798:Value).ownBlock∧some k_≠((.slice Ao13 t741.length co13):Value).ownBlock∧some k_≠((.slice Ao112 t793.length co112):Value).ownBlock) (.slice Ao81 t776.length co81) t776)∧Aside0 (Kd.R (Kd.int .i64) 3 wc w.heap.size (fun k_=>some k_≠(v798:Value).ownBlock∧some k_≠((.slice Ao13 t741.length co13):Value).ownBlock∧some k_≠((.slice Ao81 t776.length co81):Value).ownBlock) (.slice Ao112 t793.length co112) t793)∧Aside0 (wc.heap[gb745]? =some (.cells #[(.slice Ao13 t741.length co13)] 26 (0,0)))∧Aside0 (wc.heap[gb779]? =some (.cells #[(.slice Ao81 t776.length co81)] 26 (0,0)))∧Aside0 (wc.heap[gb796]? =some (.cells #[(.slice Ao112 t793.length co112)] 26 (0,0)))∧Aside0 (Below w.heap.size w wc))
            case first=>as_aux_lemma=>
             have H:=HC109.out;clear HC109
             by_cases c119:(t800 !=t804)=true
             ·
              rw [if_pos c119] at H;have c119b0:(t800 !=t804)=true:=c119
              (try (have c119b1:decide (t800=t804)=false:=by simpa using c119))
              (try (have c119b2:(t800==t804)=false:=by simpa using c119))
              (try (have c119b3: ¬ (t800=t804):=by simpa using c119))
              clear c119
              (first|rw [c119b0] |(simp only [Qcu,Qef];rw [c119b0])|skip)
              have H':=Aside0.mk H;clear H;go_wp2
              go_meet
              case rel=>exact ⟨_,(true),(by first|rfl|(simp;done)|(simp [*];done)),H',⟨by have:=HJ9.out;have:=HJ26.out;have:=HJ77.out;have:=HJ91.out;first|omega|exact Nat.le_refl _⟩,⟨Kd.R_mono (uR HO799) (fun _ hk=>⟨hk.1.1.1.2,⟨hk.1.1.2,hk.1.2⟩⟩)⟩,⟨Kd.R_mono (uR HO_746000) (fun _ hk=>⟨hk.1.2,⟨hk.1.1.1,hk.1.1.2⟩⟩)⟩,⟨Kd.R_mono (uR HO_780000) (fun _ hk=>⟨hk.1.2,⟨hk.1.1.1,hk.1.1.2⟩⟩)⟩,⟨Kd.R_mono (uR HO795) (fun _ hk=>⟨hk.1.2,⟨hk.1.1.1.2,hk.1.1.2⟩⟩)⟩,⟨uK BK745⟩,⟨uK BK779⟩,⟨uK BK796⟩,⟨(vB HB)⟩⟩
             ·
              rw [if_neg c119] at H;have c119b0:(t800 !=t804)=false:=by simpa using c119
              (try (have c119b1:decide (t800=t804)=true:=by simpa using c119))
              (try (have c119b2:(t800==t804)=true:=by simpa using c119))
              clear c119
              (first|rw [c119b0] |(simp only [Qcu,Qef];rw [c119b0])|skip)
              obtain ⟨t805,A120,H⟩:=bs H;(try dsimp only at H)
              have H':=Aside0.mk H;clear H;obtain ⟨Ao121,co121,eo121⟩:=Kd.R_slice HO799.out;subst eo121;obtain ⟨Ao122,co122,eo122⟩:=Kd.R_slice HO803.out;subst eo122;go_wp2_with (first|(go_at_call 22;(with_reducible refine (Qcw.calls kj91 _ _ t797 _ _ t801 t805 _ (uE HO799) ?side2 (uE HO803) ?side4 A120.out).mono ?_);(case side2=>exact (Kd.R_reads' HO799.out).2.1);(case side4=>exact (Kd.R_reads' HO803.out).2.1);rintro e w' ⟨rfl,⟨nd,rfl⟩⟩))
              go_meet
              case rel=>exact ⟨_,(!t805),(by first|rfl|(simp;done)|(simp [*];done)),H',⟨by have:=HJ9.out;have:=HJ26.out;have:=HJ77.out;have:=HJ91.out;first|omega|exact Nat.le_refl _⟩,⟨Kd.R_mono (uR HO799) (fun _ hk=>⟨hk.1.1.1.2,⟨hk.1.1.2,hk.1.2⟩⟩)⟩,⟨Kd.R_mono (uR HO_746000) (fun _ hk=>⟨hk.1.2,⟨hk.1.1.1,hk.1.1.2⟩⟩)⟩,⟨Kd.R_mono (uR HO_780000) (fun _ hk=>⟨hk.1.2,⟨hk.1.1.1,hk.1.1.2⟩⟩)⟩,⟨Kd.R_mono (uR HO795) (fun _ hk=>⟨hk.1.2,⟨hk.1.1.1.2,hk.1.1.2⟩⟩)⟩,⟨uK BK745⟩,⟨uK BK779⟩,⟨uK BK796⟩,⟨(vB HB)⟩⟩
            case rest=>as_aux_lemma=>
             clear HC109
             try clear hcz115_0 hcz117_0 hfz115_0 hfz117_0
             obtain ⟨kq,x322_108,rfl,HA,HJ108,HO_46,HO_746000,HO_780000,HO_797000,BK745,BK779,BK796,HB⟩:=hcut;cases kq with
             |zero=>exact absurd HA.out (by simp [laws_FnRowvacuation.j4])
             |succ kj108=>
              have H:=HA.out;clear HA;simp only [laws_FnRowvacuation.j4] at H
              by_cases c123:x322_108=true
              ·
               subst c123;rw [if_pos rfl] at H;exact absurd H (by simp)
              ·
               replace c123:=Bool.eq_false_iff.mpr c123;subst c123;rw [if_neg (show ¬ (false=true) by decide)] at H;have H':=Aside0.mk H;clear H;obtain ⟨Ao124,co124,eo124⟩:=Kd.R_slice HO_46.out;subst eo124;go_wp2
               go_loopg [325] kj108 (fun kq v325 w'=> ∃ (x325_6:Int),v325= .int .i64 x325_6∧Aside0 (laws_FnRowvacuation.l0 kq l1 t797 t797 (t797.length:Int) x325_6 t793=some r)∧Aside0 (kq≤kj108)∧Aside0 (Kd.R (Kd.int .i64) 3 w' w.heap.size (fun k_=>some k_≠((.slice Ao13 t741.length co13):Value).ownBlock∧some k_≠((.slice Ao81 t776.length co81):Value).ownBlock∧some k_≠((.slice Ao112 t793.length co112):Value).ownBlock) (.slice Ao124 t797.length co124) t797)∧Aside0 (Kd.R (Kd.int .i64) 3 w' w.heap.size (fun k_=>some k_≠((.slice Ao13 t741.length co13):Value).ownBlock∧some k_≠((.slice Ao81 t776.length co81):Value).ownBlock∧some k_≠((.slice Ao112 t793.length co112):Value).ownBlock) (.slice Ao124 t797.length co124) t797)∧Aside0 (Kd.R (Kd.int .i64) 3 w' w.heap.size (fun k_=>some k_≠((.slice Ao124 t797.length co124):Value).ownBlock∧some k_≠((.slice Ao124 t797.length co124):Value).ownBlock∧some k_≠((.slice Ao81 t776.length co81):Value).ownBlock∧some k_≠((.slice Ao112 t793.length co112):Value).ownBlock) (.slice Ao13 t741.length co13) t741)∧Aside0 (Kd.R (Kd.int .i64) 3 w' w.heap.size (fun k_=>some k_≠((.slice Ao124 t797.length co124):Value).ownBlock∧some k_≠((.slice Ao124 t797.length co124):Value).ownBlock∧some k_≠((.slice Ao13 t741.length co13):Value).ownBlock∧some k_≠((.slice Ao112 t793.length co112):Value).ownBlock) (.slice Ao81 t776.length co81) t776)∧Aside0 (Kd.R (Kd.int .i64) 3 w' w.heap.size (fun k_=>some k_≠((.slice Ao124 t797.length co124):Value).ownBlock∧some k_≠((.slice Ao124 t797.length co124):Value).ownBlock∧some k_≠((.slice Ao13 t741.length co13):Value).ownBlock∧some k_≠((.slice Ao81 t776.length co81):Value).ownBlock) (.slice Ao112 t793.length co112) t793)∧Aside0 (w'.heap[gb745]? =some (.cells #[(.slice Ao13 t741.length co13)] 26 (0,0)))∧Aside0 (w'.heap[gb779]? =some (.cells #[(.slice Ao81 t776.length co81)] 26 (0,0)))∧Aside0 (w'.heap[gb796]? =some (.cells #[(.slice Ao112 t793.length co112)] 26 (0,0)))∧Aside0 (Below w.heap.size w w'))
               case atStart=>exact ⟨(0),(by first|rfl|(simp;done)|(simp [*];done)),H',⟨Nat.le_refl _⟩,⟨uR HO_46⟩,⟨uR HO_46⟩,⟨Kd.R_mono (uR HO_746000) (fun _ hk=>⟨hk.1,⟨hk.1,⟨hk.2.1,hk.2.2⟩⟩⟩)⟩,⟨Kd.R_mono (uR HO_780000) (fun _ hk=>⟨hk.1,⟨hk.1,⟨hk.2.1,hk.2.2⟩⟩⟩)⟩,⟨Kd.R_mono (uR HO_797000) (fun _ hk=>⟨hk.1,⟨hk.1,⟨hk.2.1,hk.2.2⟩⟩⟩)⟩,⟨uK BK745⟩,⟨uK BK779⟩,⟨uK BK796⟩,⟨(vB HB)⟩⟩
               case round=>as_aux_lemma=>
                clear H'
                skip
                obtain ⟨x325_6,rfl,HA,HK6,HO_46,HO_323,HO_746000,HO_780000,HO_797000,BK745,BK779,BK796,HB⟩:=hrel;cases gk with
                |zero=>exact absurd HA.out (by simp [laws_FnRowvacuation.l0])
                |succ k6=>
                 have H:=HA.out;clear HA;simp only [laws_FnRowvacuation.l0] at H
                 by_cases c125:x325_6<(t797.length:Int)
                 ·
                  rw [if_pos c125] at H;have c125b0:=decide_eq_true c125;clear c125
                  by_cases c126:0≤x325_6
                  ·
                   rw [if_pos c126] at H;have c126b0:=decide_eq_true c126;clear c126
                   by_cases c127:x325_6<(t797.length:Int)
                   ·
                    rw [if_pos c127] at H;have c127b0:=decide_eq_true c127;clear c127;obtain ⟨⟨t807,t808⟩,A128,H⟩:=bs H;(try dsimp only at H)
                    by_cases c129:t808=true
                    ·
                     as_aux_lemma=>
                     subst c129;rw [if_pos rfl] at H
                     by_cases c130:t807=(rd t797 x325_6)
                     ·
                      rw [if_pos c130] at H;have c130b0:(t807==(rd t797 x325_6))=true:=beq_iff_eq.mpr c130;have c130b1:(t807 !=(rd t797 x325_6))=false:=bne_eq_false_iff_eq.mpr c130;clear c130
                      by_cases c131:x325_6>0
                      ·
                       rw [if_pos c131] at H;have c131b0:=decide_eq_true c131;clear c131;obtain ⟨ji132,hji132⟩: ∃ j_:Int,(wrap64 (x325_6 - 1))=j_:=⟨_,rfl⟩
                       replace H:(if 0≤(ji132) then (if (ji132)<(t797.length:Int) then (if (rd t797 (ji132)) ≥ (rd t797 x325_6) then (none) else (laws_FnRowvacuation.l0 k6 l1 t797 t797 (t797.length:Int) (wrap64 (x325_6+1)) t793)) else (none)) else (none))=some r:=by first|(rw [hji132] at H;exact H)|(simp only [hji132] at H ⊢;exact H)
                       (try rw [hji132] at A128)
                       have hji132w:(IntKind.i64.wrap (x325_6 - 1))=ji132:=(Qcu _).trans hji132
                       by_cases c133:0≤(ji132)
                       ·
                        rw [if_pos c133] at H;have c133b0:=decide_eq_true c133;clear c133
                        by_cases c134:(ji132)<(t797.length:Int)
                        ·
                         rw [if_pos c134] at H;have c134b0:=decide_eq_true c134;clear c134
                         by_cases c135:(rd t797 (ji132)) ≥ (rd t797 x325_6)
                         ·
                          as_aux_lemma=>
                          rw [if_pos c135] at H;exact absurd H (by simp)
                         ·
                          rw [if_neg c135] at H;have c135b0:=decide_eq_false c135;clear c135;have H':=Aside0.mk H;clear H;have p806:0≤(x325_6:Int):=of_decide_eq_true (by first|(with_reducible assumption)|assumption);have q806:x325_6<(t797.length:Int):=of_decide_eq_true (by first|(with_reducible assumption)|assumption);obtain ⟨ad806,e806,hx806_0⟩:=Kd.at_int (Kd.R_reads' HO_323.out).2.2 x325_6 p806 q806;cases e806;replace p806:=eq_true p806;replace q806:=eq_true q806;have hnb136:=NB796_745.out;have hnc136:=NB745_796.out;have hnb137:=NB796_779.out;have hnc137:=NB779_796.out;have hcz138_0:=bC BK796;have hfz138_0:=Qf BK796.out 0;go_wp2_with ((with_reducible refine gt ?_);first|(refine gA (some 333) Tryz.func12 #[.agg #[.slice Ao112 t793.length co112], .int .i64 (rd t797 x325_6)] ?_;(with_reducible refine (Qbs.calls k6 _ _ t793 (rd t797 x325_6) t807 true _ (uE HO_797000) ?side2 A128.out).mono ?_);(case side2=>exact (Kd.R_reads' HO_797000.out).2.1);rintro e w139 ⟨rfl,hb⟩;refine ⟨_,rfl,?_⟩;replace HO_46:=Aside0.mk (Kd.R_below (uR HO_46) hb);replace HO_323:=Aside0.mk (Kd.R_below (uR HO_323) hb);replace HO_746000:=Aside0.mk (Kd.R_below (uR HO_746000) hb);replace HO_780000:=Aside0.mk (Kd.R_below (uR HO_780000) hb);replace HO_797000:=Aside0.mk (Kd.R_below (uR HO_797000) hb);replace BK745:=Aside0.mk (Qc (uK BK745) hb);replace BK779:=Aside0.mk (Qc (uK BK779) hb);replace BK796:=Aside0.mk (Qc (uK BK796) hb);replace HB:=Aside0.mk (Qa (vB HB) hb);(try clear hb);have p809:0≤((ji132):Int):=of_decide_eq_true (by first|(with_reducible assumption)|assumption);have q809:(ji132)<(t797.length:Int):=of_decide_eq_true (by first|(with_reducible assumption)|assumption);obtain ⟨ad809,e809,hx809_0⟩:=Kd.at_int (Kd.R_reads' HO_46.out).2.2 (ji132) p809 q809;obtain rfl:ad806=ad809:=(by injection e809);replace p809:=eq_true p809;replace q809:=eq_true q809));go_roundg k6
                          case measure=>have:=HJ9.out;have:=HJ26.out;have:=HJ77.out;have:=HJ91.out;have:=HJ108.out;have:=HK6.out;omega
                          case rel=>exact ⟨(wrap64 (x325_6+1)),(by first|rfl|(simp;done)|(simp [*];done)),H',⟨by have:=HJ9.out;have:=HJ26.out;have:=HJ77.out;have:=HJ91.out;have:=HJ108.out;have:=HK6.out;omega⟩,⟨uR HO_46⟩,⟨uR HO_323⟩,⟨uR HO_746000⟩,⟨uR HO_780000⟩,⟨uR HO_797000⟩,⟨uK BK745⟩,⟨uK BK779⟩,⟨uK BK796⟩,⟨(vB HB)⟩⟩
                        ·
                         rw [if_neg c134] at H;exact absurd H (by simp)
                       ·
                        rw [if_neg c133] at H;exact absurd H (by simp)
                      ·
                       rw [if_neg c131] at H;have c131b0:=decide_eq_false c131;clear c131;have H':=Aside0.mk H;clear H;have p806:0≤(x325_6:Int):=of_decide_eq_true (by first|(with_reducible assumption)|assumption);have q806:x325_6<(t797.length:Int):=of_decide_eq_true (by first|(with_reducible assumption)|assumption);obtain ⟨ad806,e806,hx806_0⟩:=Kd.at_int (Kd.R_reads' HO_323.out).2.2 x325_6 p806 q806;cases e806;replace p806:=eq_true p806;replace q806:=eq_true q806;have hnb140:=NB796_745.out;have hnc140:=NB745_796.out;have hnb141:=NB796_779.out;have hnc141:=NB779_796.out;have hcz142_0:=bC BK796;have hfz142_0:=Qf BK796.out 0;go_wp2_with ((with_reducible refine gt ?_);first|(refine gA (some 333) Tryz.func12 #[.agg #[.slice Ao112 t793.length co112], .int .i64 (rd t797 x325_6)] ?_;(with_reducible refine (Qbs.calls k6 _ _ t793 (rd t797 x325_6) t807 true _ (uE HO_797000) ?side2 A128.out).mono ?_);(case side2=>exact (Kd.R_reads' HO_797000.out).2.1);rintro e w143 ⟨rfl,hb⟩;refine ⟨_,rfl,?_⟩;replace HO_46:=Aside0.mk (Kd.R_below (uR HO_46) hb);replace HO_323:=Aside0.mk (Kd.R_below (uR HO_323) hb);replace HO_746000:=Aside0.mk (Kd.R_below (uR HO_746000) hb);replace HO_780000:=Aside0.mk (Kd.R_below (uR HO_780000) hb);replace HO_797000:=Aside0.mk (Kd.R_below (uR HO_797000) hb);replace BK745:=Aside0.mk (Qc (uK BK745) hb);replace BK779:=Aside0.mk (Qc (uK BK779) hb);replace BK796:=Aside0.mk (Qc (uK BK796) hb);replace HB:=Aside0.mk (Qa (vB HB) hb);(try clear hb)));go_roundg k6
                       case measure=>have:=HJ9.out;have:=HJ26.out;have:=HJ77.out;have:=HJ91.out;have:=HJ108.out;have:=HK6.out;omega
                       case rel=>exact ⟨(wrap64 (x325_6+1)),(by first|rfl|(simp;done)|(simp [*];done)),H',⟨by have:=HJ9.out;have:=HJ26.out;have:=HJ77.out;have:=HJ91.out;have:=HJ108.out;have:=HK6.out;omega⟩,⟨uR HO_46⟩,⟨uR HO_323⟩,⟨uR HO_746000⟩,⟨uR HO_780000⟩,⟨uR HO_797000⟩,⟨uK BK745⟩,⟨uK BK779⟩,⟨uK BK796⟩,⟨(vB HB)⟩⟩
                     ·
                      rw [if_neg c130] at H;exact absurd H (by simp)
                    ·
                     replace c129:=Bool.eq_false_iff.mpr c129;subst c129;rw [if_neg (show ¬ (false=true) by decide)] at H;exact absurd H (by simp)
                   ·
                    rw [if_neg c127] at H;exact absurd H (by simp)
                  ·
                   rw [if_neg c126] at H;exact absurd H (by simp)
                 ·
                  rw [if_neg c125] at H;have c125b0:=decide_eq_false c125;clear c125;obtain ⟨⟨t810,t813⟩,A144,H⟩:=bs H;(try dsimp only at H)
                  obtain ⟨⟨t815,t816⟩,A145,H⟩:=bs H;(try dsimp only at H)
                  obtain ⟨⟨t817,t818⟩,A146,H⟩:=bs H;(try dsimp only at H)
                  obtain ⟨⟨t819,t820⟩,A147,H⟩:=bs H;(try dsimp only at H)
                  obtain ⟨⟨t821,t822⟩,A148,H⟩:=bs H;(try dsimp only at H)
                  have HC149:=Aside0.mk H;clear H;go_upto_region 51 with ((with_reducible refine gt ?_);first|(refine gA (some 359) Tryz.func27 #[.slice A1 l1.length c1] ?_;(with_reducible refine (Qdh.calls k6 _ _ l1 t810 t813 _ (uD HR1 HB) HC1.out A144.out).mono ?_);rintro e w150 ⟨v811,rfl,ho0,hb⟩;refine ⟨_,rfl,?_⟩;have HO812:=Aside0.mk (Kd.R_lower (Kd.R_new' (Kd.R_new' (Kd.R_new' (Kd.R_new' (Kd.R_new' ho0 (Kd.R_lt (uR HO_46))) (Kd.R_lt (uR HO_323))) (Kd.R_lt (uR HO_746000))) (Kd.R_lt (uR HO_780000))) (Kd.R_lt (uR HO_797000))) (Qp (vB HB)));replace HO_46:=Aside0.mk (Kd.R_elder' (uR HO_46) (Kd.R_base ho0) hb);replace HO_323:=Aside0.mk (Kd.R_elder' (uR HO_323) (Kd.R_base ho0) hb);replace HO_746000:=Aside0.mk (Kd.R_elder' (uR HO_746000) (Kd.R_base ho0) hb);replace HO_780000:=Aside0.mk (Kd.R_elder' (uR HO_780000) (Kd.R_base ho0) hb);replace HO_797000:=Aside0.mk (Kd.R_elder' (uR HO_797000) (Kd.R_base ho0) hb);replace BK745:=Aside0.mk (Qc (uK BK745) hb);replace BK779:=Aside0.mk (Qc (uK BK779) hb);replace BK796:=Aside0.mk (Qc (uK BK796) hb);replace HB:=Aside0.mk (Qa (vB HB) hb);(try clear hb ho0))|(refine bE (N:=54) (cs:= #[.slice none 0 0]) (t:=26) ?_;intro gb814 hg w151 hbox hb;replace HO_46:=Aside0.mk (Kd.R_below (uR HO_46) hb);replace HO_323:=Aside0.mk (Kd.R_below (uR HO_323) hb);replace HO_746000:=Aside0.mk (Kd.R_below (uR HO_746000) hb);replace HO_780000:=Aside0.mk (Kd.R_below (uR HO_780000) hb);replace HO_797000:=Aside0.mk (Kd.R_below (uR HO_797000) hb);replace HO812:=Aside0.mk (Kd.R_below (uR HO812) hb);have BK814:=Aside0.mk (hbox);have GW814:=Aside0.mk ((by rw [hg];exact (Qp (vB HB)):w.heap.size≤gb814));have GE814:=GW814;replace HB:=Aside0.mk (Qa (vB HB) hb);have NB745_814:=Aside0.mk ((by rw [hg];exact Nat.ne_of_lt (Qcc (uK BK745)):gb745≠gb814));have NB814_745:=Aside0.mk ((by rw [hg];exact Nat.ne_of_gt (Qcc (uK BK745)):gb814≠gb745));replace BK745:=Aside0.mk (Qc (uK BK745) hb);have NB779_814:=Aside0.mk ((by rw [hg];exact Nat.ne_of_lt (Qcc (uK BK779)):gb779≠gb814));have NB814_779:=Aside0.mk ((by rw [hg];exact Nat.ne_of_gt (Qcc (uK BK779)):gb814≠gb779));replace BK779:=Aside0.mk (Qc (uK BK779) hb);have NB796_814:=Aside0.mk ((by rw [hg];exact Nat.ne_of_lt (Qcc (uK BK796)):gb796≠gb814));have NB814_796:=Aside0.mk ((by rw [hg];exact Nat.ne_of_gt (Qcc (uK BK796)):gb814≠gb796));replace BK796:=Aside0.mk (Qc (uK BK796) hb);clear hb hbox hg;obtain ⟨Ao152,co152,eo152⟩:=Kd.R_slice HO812.out;subst eo152;have hnb153:=NB814_745.out;have hnc153:=NB745_814.out;have hnb154:=NB814_779.out;have hnc154:=NB779_814.out;have hnb155:=NB814_796.out;have hnc155:=NB796_814.out;have hcz156_0:=bC BK814;have hfz156_0:=Qf BK814.out 0)|(refine gA (some 365) Tryz.func28 #[.agg #[.slice Ao152 t810.length co152], .int .i64 t813] ?_;(with_reducible refine (Qdn.calls k6 _ _ t810 t813 t815 t816 _ ?side1 ?side2 A145.out).mono ?_);(case side1=>refine (Kd.R_reads' (e:=3) (base:=w.heap.size) (ok:=fun k_=>(((((True∧some k_≠(.slice Ao124 t797.length co124:Value).ownBlock)∧some k_≠(.slice Ao124 t797.length co124:Value).ownBlock)∧some k_≠(.slice Ao13 t741.length co13:Value).ownBlock)∧some k_≠(.slice Ao81 t776.length co81:Value).ownBlock)∧some k_≠(.slice Ao112 t793.length co112:Value).ownBlock)) (n:=t810.length) (c:=co152) ?_).2.2;exact (rF HO812 BK814 (.slice Ao152 t810.length co152)));(case side2=>exact (Kd.R_reads' HO812.out).2.1);rintro e w157 ⟨rfl,hb⟩;refine ⟨_,rfl,?_⟩;replace HO_46:=Aside0.mk (Kd.R_below (rF HO_46 BK814 (.slice Ao152 t810.length co152)) hb);replace HO_323:=Aside0.mk (Kd.R_below (rF HO_323 BK814 (.slice Ao152 t810.length co152)) hb);replace HO_746000:=Aside0.mk (Kd.R_below (rF HO_746000 BK814 (.slice Ao152 t810.length co152)) hb);replace HO_780000:=Aside0.mk (Kd.R_below (rF HO_780000 BK814 (.slice Ao152 t810.length co152)) hb);replace HO_797000:=Aside0.mk (Kd.R_below (rF HO_797000 BK814 (.slice Ao152 t810.length co152)) hb);replace HO812:=Aside0.mk (Kd.R_below (rF HO812 BK814 (.slice Ao152 t810.length co152)) hb);replace BK745:=Aside0.mk (Qc (g:=gb745) (o:= .cells #[.slice Ao13 t741.length co13] 26 (0,0)) kF hb);replace BK779:=Aside0.mk (Qc (g:=gb779) (o:= .cells #[.slice Ao81 t776.length co81] 26 (0,0)) kF hb);replace BK796:=Aside0.mk (Qc (g:=gb796) (o:= .cells #[.slice Ao112 t793.length co112] 26 (0,0)) kF hb);replace BK814:=Aside0.mk (Qc (g:=gb814) (o:= .cells #[.slice Ao152 t810.length co152] 26 (0,0)) bP hb);replace HB:=Aside0.mk (Qa (vB HB) hb);(try clear hb);have hcz158_0:=bC BK814;have hfz158_0:=Qf BK814.out 0)|(refine gA (some 371) Tryz.func29 #[.agg #[.slice Ao152 t810.length co152], .int .i64 t813] ?_;(with_reducible refine (Qdx.calls k6 _ _ t810 t813 t817 t818 _ (uE HO812) ?side2 A146.out).mono ?_);(case side2=>exact (Kd.R_reads' HO812.out).2.1);rintro e w159 ⟨rfl,hb⟩;refine ⟨_,rfl,?_⟩;replace HO_46:=Aside0.mk (Kd.R_below (uR HO_46) hb);replace HO_323:=Aside0.mk (Kd.R_below (uR HO_323) hb);replace HO_746000:=Aside0.mk (Kd.R_below (uR HO_746000) hb);replace HO_780000:=Aside0.mk (Kd.R_below (uR HO_780000) hb);replace HO_797000:=Aside0.mk (Kd.R_below (uR HO_797000) hb);replace HO812:=Aside0.mk (Kd.R_below (uR HO812) hb);replace BK745:=Aside0.mk (Qc (uK BK745) hb);replace BK779:=Aside0.mk (Qc (uK BK779) hb);replace BK796:=Aside0.mk (Qc (uK BK796) hb);replace BK814:=Aside0.mk (Qc (uK BK814) hb);replace HB:=Aside0.mk (Qa (vB HB) hb);(try clear hb);have hcz160_0:=bC BK814;have hfz160_0:=Qf BK814.out 0)|(refine gA (some 377) Tryz.func30 #[.agg #[.slice Ao152 t810.length co152], .int .i64 t813] ?_;(with_reducible refine (Qdv.calls k6 _ _ t810 t813 t819 t820 _ (uE HO812) ?side2 A147.out).mono ?_);(case side2=>exact (Kd.R_reads' HO812.out).2.1);rintro e w161 ⟨rfl,hb⟩;refine ⟨_,rfl,?_⟩;replace HO_46:=Aside0.mk (Kd.R_below (uR HO_46) hb);replace HO_323:=Aside0.mk (Kd.R_below (uR HO_323) hb);replace HO_746000:=Aside0.mk (Kd.R_below (uR HO_746000) hb);replace HO_780000:=Aside0.mk (Kd.R_below (uR HO_780000) hb);replace HO_797000:=Aside0.mk (Kd.R_below (uR HO_797000) hb);replace HO812:=Aside0.mk (Kd.R_below (uR HO812) hb);replace BK745:=Aside0.mk (Qc (uK BK745) hb);replace BK779:=Aside0.mk (Qc (uK BK779) hb);replace BK796:=Aside0.mk (Qc (uK BK796) hb);replace BK814:=Aside0.mk (Qc (uK BK814) hb);replace HB:=Aside0.mk (Qa (vB HB) hb);(try clear hb);have hcz162_0:=bC BK814;have hfz162_0:=Qf BK814.out 0)|(refine gA (some 383) Tryz.func31 #[.agg #[.slice Ao152 t810.length co152], .int .i64 t813] ?_;(with_reducible refine (Qdy.calls k6 _ _ t810 t813 t821 t822 _ (uE HO812) ?side2 A148.out).mono ?_);(case side2=>exact (Kd.R_reads' HO812.out).2.1);rintro e w163 ⟨rfl,hb⟩;refine ⟨_,rfl,?_⟩;replace HO_46:=Aside0.mk (Kd.R_below (uR HO_46) hb);replace HO_323:=Aside0.mk (Kd.R_below (uR HO_323) hb);replace HO_746000:=Aside0.mk (Kd.R_below (uR HO_746000) hb);replace HO_780000:=Aside0.mk (Kd.R_below (uR HO_780000) hb);replace HO_797000:=Aside0.mk (Kd.R_below (uR HO_797000) hb);replace HO812:=Aside0.mk (Kd.R_below (uR HO812) hb);replace BK745:=Aside0.mk (Qc (uK BK745) hb);replace BK779:=Aside0.mk (Qc (uK BK779) hb);replace BK796:=Aside0.mk (Qc (uK BK796) hb);replace BK814:=Aside0.mk (Qc (uK BK814) hb);replace HB:=Aside0.mk (Qa (vB HB) hb);(try clear hb)))
                  (try simp only [Act.put,List.setIfInBounds_toArray,List.set_cons_zero,List.set_cons_succ])
                  go_cut [408] (fun v408 wc=> ∃ (kq:Nat) (x408_148:Bool),v408= .bool x408_148∧Aside0 (laws_FnRowvacuation.j6 kq t813 t815 t816 t819 x408_148 t810=some r)∧Aside0 (kq≤k6)∧Aside0 (Kd.R (Kd.int .i64) 3 wc w.heap.size (fun k_=>some k_≠((.slice Ao81 t776.length co81):Value).ownBlock∧some k_≠((.slice Ao112 t793.length co112):Value).ownBlock∧some k_≠((.slice Ao152 t810.length co152):Value).ownBlock) (.slice Ao13 t741.length co13) t741)∧Aside0 (Kd.R (Kd.int .i64) 3 wc w.heap.size (fun k_=>some k_≠((.slice Ao13 t741.length co13):Value).ownBlock∧some k_≠((.slice Ao112 t793.length co112):Value).ownBlock∧some k_≠((.slice Ao152 t810.length co152):Value).ownBlock) (.slice Ao81 t776.length co81) t776)∧Aside0 (Kd.R (Kd.int .i64) 3 wc w.heap.size (fun k_=>some k_≠((.slice Ao13 t741.length co13):Value).ownBlock∧some k_≠((.slice Ao81 t776.length co81):Value).ownBlock∧some k_≠((.slice Ao152 t810.length co152):Value).ownBlock) (.slice Ao112 t793.length co112) t793)∧Aside0 (Kd.R (Kd.int .i64) 3 wc w.heap.size (fun k_=>some k_≠((.slice Ao13 t741.length co13):Value).ownBlock∧some k_≠((.slice Ao81 t776.length co81):Value).ownBlock∧some k_≠((.slice Ao112 t793.length co112):Value).ownBlock) (.slice Ao152 t810.length co152) t810)∧Aside0 (wc.heap[gb745]? =some (.cells #[(.slice Ao13 t741.length co13)] 26 (0,0)))∧Aside0 (wc.heap[gb779]? =some (.cells #[(.slice Ao81 t776.length co81)] 26 (0,0)))∧Aside0 (wc.heap[gb796]? =some (.cells #[(.slice Ao112 t793.length co112)] 26 (0,0)))∧Aside0 (wc.heap[gb814]? =some (.cells #[(.slice Ao152 t810.length co152)] 26 (0,0)))∧Aside0 (Below w.heap.size w wc))
                  case first=>as_aux_lemma=>
                   have H:=HC149.out;clear HC149
                   by_cases c164:(t816 !=t818)=true
                   ·
                    rw [if_pos c164] at H;have c164b0:(t816 !=t818)=true:=c164
                    (try (have c164b1:decide (t816=t818)=false:=by simpa using c164))
                    (try (have c164b2:(t816==t818)=false:=by simpa using c164))
                    (try (have c164b3: ¬ (t816=t818):=by simpa using c164))
                    clear c164
                    (first|rw [c164b0] |(simp only [Qcu,Qef];rw [c164b0])|skip)
                    have H':=Aside0.mk H;clear H;go_wp2
                    go_meet
                    case rel=>exact ⟨_,(true),(by first|rfl|(simp;done)|(simp [*];done)),H',⟨by have:=HJ9.out;have:=HJ26.out;have:=HJ77.out;have:=HJ91.out;have:=HJ108.out;have:=HK6.out;first|omega|exact Nat.le_refl _⟩,⟨Kd.R_mono (uR HO_746000) (fun _ hk=>⟨hk.1.2.2.1,⟨hk.1.2.2.2,hk.2⟩⟩)⟩,⟨Kd.R_mono (uR HO_780000) (fun _ hk=>⟨hk.1.2.2.1,⟨hk.1.2.2.2,hk.2⟩⟩)⟩,⟨Kd.R_mono (uR HO_797000) (fun _ hk=>⟨hk.1.2.2.1,⟨hk.1.2.2.2,hk.2⟩⟩)⟩,⟨Kd.R_mono (uR HO812) (fun _ hk=>⟨hk.1.1.2,⟨hk.1.2,hk.2⟩⟩)⟩,⟨uK BK745⟩,⟨uK BK779⟩,⟨uK BK796⟩,⟨uK BK814⟩,⟨(vB HB)⟩⟩
                   ·
                    rw [if_neg c164] at H;have c164b0:(t816 !=t818)=false:=by simpa using c164
                    (try (have c164b1:decide (t816=t818)=true:=by simpa using c164))
                    (try (have c164b2:(t816==t818)=true:=by simpa using c164))
                    clear c164
                    (first|rw [c164b0] |(simp only [Qcu,Qef];rw [c164b0])|skip)
                    by_cases c165:t815=t817
                    ·
                     as_aux_lemma=>
                     rw [if_pos c165] at H;have c165b0:(t815==t817)=true:=beq_iff_eq.mpr c165;have c165b1:(t815 !=t817)=false:=bne_eq_false_iff_eq.mpr c165;clear c165
                     by_cases c166:(t820 !=t822)=true
                     ·
                      rw [if_pos c166] at H;have c166b0:(t820 !=t822)=true:=c166
                      (try (have c166b1:decide (t820=t822)=false:=by simpa using c166))
                      (try (have c166b2:(t820==t822)=false:=by simpa using c166))
                      (try (have c166b3: ¬ (t820=t822):=by simpa using c166))
                      clear c166;have H':=Aside0.mk H;clear H;go_wp2
                      go_meet
                      case rel=>exact ⟨_,(true),(by first|rfl|(simp;done)|(simp [*];done)),H',⟨by have:=HJ9.out;have:=HJ26.out;have:=HJ77.out;have:=HJ91.out;have:=HJ108.out;have:=HK6.out;first|omega|exact Nat.le_refl _⟩,⟨Kd.R_mono (uR HO_746000) (fun _ hk=>⟨hk.1.2.2.1,⟨hk.1.2.2.2,hk.2⟩⟩)⟩,⟨Kd.R_mono (uR HO_780000) (fun _ hk=>⟨hk.1.2.2.1,⟨hk.1.2.2.2,hk.2⟩⟩)⟩,⟨Kd.R_mono (uR HO_797000) (fun _ hk=>⟨hk.1.2.2.1,⟨hk.1.2.2.2,hk.2⟩⟩)⟩,⟨Kd.R_mono (uR HO812) (fun _ hk=>⟨hk.1.1.2,⟨hk.1.2,hk.2⟩⟩)⟩,⟨uK BK745⟩,⟨uK BK779⟩,⟨uK BK796⟩,⟨uK BK814⟩,⟨(vB HB)⟩⟩
                     ·
                      rw [if_neg c166] at H;have c166b0:(t820 !=t822)=false:=by simpa using c166
                      (try (have c166b1:decide (t820=t822)=true:=by simpa using c166))
                      (try (have c166b2:(t820==t822)=true:=by simpa using c166))
                      clear c166
                      by_cases c167:t819=t821
                      ·
                       rw [if_pos c167] at H;have c167b0:(t819==t821)=true:=beq_iff_eq.mpr c167;have c167b1:(t819 !=t821)=false:=bne_eq_false_iff_eq.mpr c167;clear c167;have H':=Aside0.mk H;clear H;go_wp2
                       go_meet
                       case rel=>exact ⟨_,((t816 !=t820)),(by first|rfl|(simp;done)|(simp [*];done)),H',⟨by have:=HJ9.out;have:=HJ26.out;have:=HJ77.out;have:=HJ91.out;have:=HJ108.out;have:=HK6.out;first|omega|exact Nat.le_refl _⟩,⟨Kd.R_mono (uR HO_746000) (fun _ hk=>⟨hk.1.2.2.1,⟨hk.1.2.2.2,hk.2⟩⟩)⟩,⟨Kd.R_mono (uR HO_780000) (fun _ hk=>⟨hk.1.2.2.1,⟨hk.1.2.2.2,hk.2⟩⟩)⟩,⟨Kd.R_mono (uR HO_797000) (fun _ hk=>⟨hk.1.2.2.1,⟨hk.1.2.2.2,hk.2⟩⟩)⟩,⟨Kd.R_mono (uR HO812) (fun _ hk=>⟨hk.1.1.2,⟨hk.1.2,hk.2⟩⟩)⟩,⟨uK BK745⟩,⟨uK BK779⟩,⟨uK BK796⟩,⟨uK BK814⟩,⟨(vB HB)⟩⟩
                      ·
                       rw [if_neg c167] at H;have c167b0:(t819==t821)=false:=beq_eq_false_iff_ne.mpr c167;have c167b1:(t819 !=t821)=true:=bne_iff_ne.mpr c167;have H':=Aside0.mk H;clear H;go_wp2
                       go_meet
                       case rel=>exact ⟨_,(true),(by first|rfl|(simp;done)|(simp [*];done)),H',⟨by have:=HJ9.out;have:=HJ26.out;have:=HJ77.out;have:=HJ91.out;have:=HJ108.out;have:=HK6.out;first|omega|exact Nat.le_refl _⟩,⟨Kd.R_mono (uR HO_746000) (fun _ hk=>⟨hk.1.2.2.1,⟨hk.1.2.2.2,hk.2⟩⟩)⟩,⟨Kd.R_mono (uR HO_780000) (fun _ hk=>⟨hk.1.2.2.1,⟨hk.1.2.2.2,hk.2⟩⟩)⟩,⟨Kd.R_mono (uR HO_797000) (fun _ hk=>⟨hk.1.2.2.1,⟨hk.1.2.2.2,hk.2⟩⟩)⟩,⟨Kd.R_mono (uR HO812) (fun _ hk=>⟨hk.1.1.2,⟨hk.1.2,hk.2⟩⟩)⟩,⟨uK BK745⟩,⟨uK BK779⟩,⟨uK BK796⟩,⟨uK BK814⟩,⟨(vB HB)⟩⟩
                    ·
                     rw [if_neg c165] at H;have c165b0:(t815==t817)=false:=beq_eq_false_iff_ne.mpr c165;have c165b1:(t815 !=t817)=true:=bne_iff_ne.mpr c165;have H':=Aside0.mk H;clear H;go_wp2
                     go_meet
                     case rel=>exact ⟨_,(true),(by first|rfl|(simp;done)|(simp [*];done)),H',⟨by have:=HJ9.out;have:=HJ26.out;have:=HJ77.out;have:=HJ91.out;have:=HJ108.out;have:=HK6.out;first|omega|exact Nat.le_refl _⟩,⟨Kd.R_mono (uR HO_746000) (fun _ hk=>⟨hk.1.2.2.1,⟨hk.1.2.2.2,hk.2⟩⟩)⟩,⟨Kd.R_mono (uR HO_780000) (fun _ hk=>⟨hk.1.2.2.1,⟨hk.1.2.2.2,hk.2⟩⟩)⟩,⟨Kd.R_mono (uR HO_797000) (fun _ hk=>⟨hk.1.2.2.1,⟨hk.1.2.2.2,hk.2⟩⟩)⟩,⟨Kd.R_mono (uR HO812) (fun _ hk=>⟨hk.1.1.2,⟨hk.1.2,hk.2⟩⟩)⟩,⟨uK BK745⟩,⟨uK BK779⟩,⟨uK BK796⟩,⟨uK BK814⟩,⟨(vB HB)⟩⟩
                  case rest=>as_aux_lemma=>
                   clear HC149
                   try clear c125b0 hcz156_0 hcz158_0 hcz160_0 hcz162_0 hfz156_0 hfz158_0 hfz160_0 hfz162_0
                   obtain ⟨kq,x408_148,rfl,HA,HJ148,HO_746000,HO_780000,HO_797000,HO_815000,BK745,BK779,BK796,BK814,HB⟩:=hcut;cases kq with
                   |zero=>exact absurd HA.out (by simp [laws_FnRowvacuation.j6])
                   |succ kj148=>
                    have H:=HA.out;clear HA;simp only [laws_FnRowvacuation.j6] at H
                    by_cases c168:x408_148=true
                    ·
                     as_aux_lemma=>
                     subst c168;rw [if_pos rfl] at H;exact absurd H (by simp)
                    ·
                     replace c168:=Bool.eq_false_iff.mpr c168;subst c168;rw [if_neg (show ¬ (false=true) by decide)] at H
                     by_cases c169:t816=true
                     ·
                      subst c169;rw [if_pos rfl] at H;obtain ⟨⟨t823,t826⟩,A170,H⟩:=bs H;(try dsimp only at H)
                      obtain ⟨⟨t828,t829⟩,A171,H⟩:=bs H;(try dsimp only at H)
                      obtain ⟨⟨t830,t831⟩,A172,H⟩:=bs H;(try dsimp only at H)
                      by_cases c173:t826=true
                      ·
                       subst c173;rw [if_pos rfl] at H
                       by_cases c174:t829=true
                       ·
                        subst c174;rw [if_pos rfl] at H
                        by_cases c175:t828=t813
                        ·
                         rw [if_pos c175] at H;have c175b0:(t828==t813)=true:=beq_iff_eq.mpr c175;have c175b1:(t828 !=t813)=false:=bne_eq_false_iff_eq.mpr c175;clear c175
                         by_cases c176:t831=true
                         ·
                          as_aux_lemma=>
                          subst c176;rw [if_pos rfl] at H
                          by_cases c177:t830=t819
                          ·
                           rw [if_pos c177] at H;have c177b0:(t830==t819)=true:=beq_iff_eq.mpr c177;have c177b1:(t830 !=t819)=false:=bne_eq_false_iff_eq.mpr c177;clear c177;obtain ⟨t832,A178,H⟩:=bs H;(try dsimp only at H)
                           obtain rfl:=Option.some.inj H;have hnb179:=NB814_745.out;have hnc179:=NB745_814.out;have hnb180:=NB814_779.out;have hnc180:=NB779_814.out;have hnb181:=NB814_796.out;have hnc181:=NB796_814.out;have hcz182_0:=bC BK814;have hfz182_0:=Qf BK814.out 0;go_wp2_with (first|((with_reducible refine gt ?_);refine gA (some 412) Tryz.func32 #[.agg #[.slice Ao152 t810.length co152]] ?_;(with_reducible refine (Qej.calls kj148 _ _ t810 t823 true _ (uE HO_815000) ?side2 A170.out).mono ?_);(case side2=>exact (Kd.R_reads' HO_815000.out).2.1);rintro e w183 ⟨v824,rfl,ho0,hb⟩;refine ⟨_,rfl,?_⟩;have HO825:=Aside0.mk (Kd.R_lower (Kd.R_new' (Kd.R_new' (Kd.R_new' (Kd.R_new' ho0 (Kd.R_lt (uR HO_746000))) (Kd.R_lt (uR HO_780000))) (Kd.R_lt (uR HO_797000))) (Kd.R_lt (uR HO_815000))) (Qp (vB HB)));replace HO_746000:=Aside0.mk (Kd.R_elder' (uR HO_746000) (Kd.R_base ho0) hb);replace HO_780000:=Aside0.mk (Kd.R_elder' (uR HO_780000) (Kd.R_base ho0) hb);replace HO_797000:=Aside0.mk (Kd.R_elder' (uR HO_797000) (Kd.R_base ho0) hb);replace HO_815000:=Aside0.mk (Kd.R_elder' (uR HO_815000) (Kd.R_base ho0) hb);replace BK745:=Aside0.mk (Qc (uK BK745) hb);replace BK779:=Aside0.mk (Qc (uK BK779) hb);replace BK796:=Aside0.mk (Qc (uK BK796) hb);replace BK814:=Aside0.mk (Qc (uK BK814) hb);replace HB:=Aside0.mk (Qa (vB HB) hb);(try clear hb ho0))|((with_reducible refine gt ?_);refine bE (N:=64) (cs:= #[.slice none 0 0]) (t:=26) ?_;intro gb827 hg w184 hbox hb;replace HO_746000:=Aside0.mk (Kd.R_below (uR HO_746000) hb);replace HO_780000:=Aside0.mk (Kd.R_below (uR HO_780000) hb);replace HO_797000:=Aside0.mk (Kd.R_below (uR HO_797000) hb);replace HO_815000:=Aside0.mk (Kd.R_below (uR HO_815000) hb);replace HO825:=Aside0.mk (Kd.R_below (uR HO825) hb);have BK827:=Aside0.mk (hbox);have GW827:=Aside0.mk ((by rw [hg];exact (Qp (vB HB)):w.heap.size≤gb827));have GE827:=GW827;replace HB:=Aside0.mk (Qa (vB HB) hb);have NB745_827:=Aside0.mk ((by rw [hg];exact Nat.ne_of_lt (Qcc (uK BK745)):gb745≠gb827));have NB827_745:=Aside0.mk ((by rw [hg];exact Nat.ne_of_gt (Qcc (uK BK745)):gb827≠gb745));replace BK745:=Aside0.mk (Qc (uK BK745) hb);have NB779_827:=Aside0.mk ((by rw [hg];exact Nat.ne_of_lt (Qcc (uK BK779)):gb779≠gb827));have NB827_779:=Aside0.mk ((by rw [hg];exact Nat.ne_of_gt (Qcc (uK BK779)):gb827≠gb779));replace BK779:=Aside0.mk (Qc (uK BK779) hb);have NB796_827:=Aside0.mk ((by rw [hg];exact Nat.ne_of_lt (Qcc (uK BK796)):gb796≠gb827));have NB827_796:=Aside0.mk ((by rw [hg];exact Nat.ne_of_gt (Qcc (uK BK796)):gb827≠gb796));replace BK796:=Aside0.mk (Qc (uK BK796) hb);have NB814_827:=Aside0.mk ((by rw [hg];exact Nat.ne_of_lt (Qcc (uK BK814)):gb814≠gb827));have NB827_814:=Aside0.mk ((by rw [hg];exact Nat.ne_of_gt (Qcc (uK BK814)):gb827≠gb814));replace BK814:=Aside0.mk (Qc (uK BK814) hb);clear hb hbox hg;obtain ⟨Ao185,co185,eo185⟩:=Kd.R_slice HO825.out;subst eo185;have hnb186:=NB827_745.out;have hnc186:=NB745_827.out;have hnb187:=NB827_779.out;have hnc187:=NB779_827.out;have hnb188:=NB827_796.out;have hnc188:=NB796_827.out;have hnb189:=NB827_814.out;have hnc189:=NB814_827.out;have hcz190_0:=bC BK827;have hfz190_0:=Qf BK827.out 0)|((with_reducible refine gt ?_);refine gA (some 418) Tryz.func28 #[.agg #[.slice Ao185 t823.length co185], .int .i64 t815] ?_;(with_reducible refine (Qdn.calls kj148 _ _ t823 t815 t828 true _ ?side1 ?side2 A171.out).mono ?_);(case side1=>refine (Kd.R_reads' (e:=3) (base:=w.heap.size) (ok:=fun k_=>((((True∧some k_≠(.slice Ao13 t741.length co13:Value).ownBlock)∧some k_≠(.slice Ao81 t776.length co81:Value).ownBlock)∧some k_≠(.slice Ao112 t793.length co112:Value).ownBlock)∧some k_≠(.slice Ao152 t810.length co152:Value).ownBlock)) (n:=t823.length) (c:=co185) ?_).2.2;exact (rF HO825 BK827 (.slice Ao185 t823.length co185)));(case side2=>exact (Kd.R_reads' HO825.out).2.1);rintro e w191 ⟨rfl,hb⟩;refine ⟨_,rfl,?_⟩;replace HO_746000:=Aside0.mk (Kd.R_below (rF HO_746000 BK827 (.slice Ao185 t823.length co185)) hb);replace HO_780000:=Aside0.mk (Kd.R_below (rF HO_780000 BK827 (.slice Ao185 t823.length co185)) hb);replace HO_797000:=Aside0.mk (Kd.R_below (rF HO_797000 BK827 (.slice Ao185 t823.length co185)) hb);replace HO_815000:=Aside0.mk (Kd.R_below (rF HO_815000 BK827 (.slice Ao185 t823.length co185)) hb);replace HO825:=Aside0.mk (Kd.R_below (rF HO825 BK827 (.slice Ao185 t823.length co185)) hb);replace BK745:=Aside0.mk (Qc (g:=gb745) (o:= .cells #[.slice Ao13 t741.length co13] 26 (0,0)) kF hb);replace BK779:=Aside0.mk (Qc (g:=gb779) (o:= .cells #[.slice Ao81 t776.length co81] 26 (0,0)) kF hb);replace BK796:=Aside0.mk (Qc (g:=gb796) (o:= .cells #[.slice Ao112 t793.length co112] 26 (0,0)) kF hb);replace BK814:=Aside0.mk (Qc (g:=gb814) (o:= .cells #[.slice Ao152 t810.length co152] 26 (0,0)) kF hb);replace BK827:=Aside0.mk (Qc (g:=gb827) (o:= .cells #[.slice Ao185 t823.length co185] 26 (0,0)) bP hb);replace HB:=Aside0.mk (Qa (vB HB) hb);(try clear hb);have hcz192_0:=bC BK827;have hfz192_0:=Qf BK827.out 0)|((with_reducible refine gt ?_);refine gA (some 424) Tryz.func16 #[.agg #[.slice Ao185 t823.length co185], .int .i64 t815] ?_;(with_reducible refine (Qdb.calls kj148 _ _ t823 t815 t830 true _ (uE HO825) ?side2 A172.out).mono ?_);(case side2=>exact (Kd.R_reads' HO825.out).2.1);rintro e w193 ⟨rfl,hb⟩;refine ⟨_,rfl,?_⟩;replace HO_746000:=Aside0.mk (Kd.R_below (uR HO_746000) hb);replace HO_780000:=Aside0.mk (Kd.R_below (uR HO_780000) hb);replace HO_797000:=Aside0.mk (Kd.R_below (uR HO_797000) hb);replace HO_815000:=Aside0.mk (Kd.R_below (uR HO_815000) hb);replace HO825:=Aside0.mk (Kd.R_below (uR HO825) hb);replace BK745:=Aside0.mk (Qc (uK BK745) hb);replace BK779:=Aside0.mk (Qc (uK BK779) hb);replace BK796:=Aside0.mk (Qc (uK BK796) hb);replace BK814:=Aside0.mk (Qc (uK BK814) hb);replace BK827:=Aside0.mk (Qc (uK BK827) hb);replace HB:=Aside0.mk (Qa (vB HB) hb);(try clear hb);have hcz194_0:=bC BK827;have hfz194_0:=Qf BK827.out 0)|(go_at_call 33;(with_reducible refine (Qek.calls kj148 _ _ t823 t815 t832 _ (uE HO825) ?side2 A178.out).mono ?_);(case side2=>exact (Kd.R_reads' HO825.out).2.1);rintro e w195 ⟨rfl,hb⟩;replace HO_746000:=Aside0.mk (Kd.R_below (uR HO_746000) hb);replace HO_780000:=Aside0.mk (Kd.R_below (uR HO_780000) hb);replace HO_797000:=Aside0.mk (Kd.R_below (uR HO_797000) hb);replace HO_815000:=Aside0.mk (Kd.R_below (uR HO_815000) hb);replace HO825:=Aside0.mk (Kd.R_below (uR HO825) hb);replace BK745:=Aside0.mk (Qc (uK BK745) hb);replace BK779:=Aside0.mk (Qc (uK BK779) hb);replace BK796:=Aside0.mk (Qc (uK BK796) hb);replace BK814:=Aside0.mk (Qc (uK BK814) hb);replace BK827:=Aside0.mk (Qc (uK BK827) hb);replace HB:=Aside0.mk (Qa (vB HB) hb);(try clear hb)))
                           go_ret
                           exact ⟨by first|rfl|(simp [Qd,Qe] <;>rfl)|(simp [*,Qd,Qe] <;>rfl),(vB HB)⟩
                          ·
                           rw [if_neg c177] at H;exact absurd H (by simp)
                         ·
                          replace c176:=Bool.eq_false_iff.mpr c176;subst c176;rw [if_neg (show ¬ (false=true) by decide)] at H;exact absurd H (by simp)
                        ·
                         rw [if_neg c175] at H;exact absurd H (by simp)
                       ·
                        replace c174:=Bool.eq_false_iff.mpr c174;subst c174;rw [if_neg (show ¬ (false=true) by decide)] at H;exact absurd H (by simp)
                      ·
                       replace c173:=Bool.eq_false_iff.mpr c173;subst c173;rw [if_neg (show ¬ (false=true) by decide)] at H;exact absurd H (by simp)
                     ·
                      replace c169:=Bool.eq_false_iff.mpr c169;subst c169;rw [if_neg (show ¬ (false=true) by decide)] at H;obtain rfl:=Option.some.inj H;go_wp2
                      go_ret
                      exact ⟨by first|rfl|(simp [Qd,Qe] <;>rfl)|(simp [*,Qd,Qe] <;>rfl),(vB HB)⟩
def laws_FnRowvacuation.Pure : Prop := ∀ (l0 : List Int) (l1 : List Int), l0.length ≤ maxLen → l0.length * 1 ≤ 140737488351232 → (∀ x ∈ l0, (Lit.int .u8 x).wf = true) → l1.length ≤ maxLen → l1.length * 1 ≤ 140737488351232 → (∀ x ∈ l1, (Lit.int .u8 x).wf = true) → ∃ k, laws_FnRowvacuation.f k l0 l1 = some true
theorem laws_FnRowvacuation.walk (P : laws_FnRowvacuation.Pure) (a0 : Option Addr) (len0 cap0 : Nat) (z0 : List Int) (a1 : Option Addr) (len1 cap1 : Nat) (z1 : List Int) (w : World) (w0 : (a0 = none ∧ len0 = 0 ∧ cap0 = 0 ∧ z0 = []) ∨ ∃ x, a0 = some x ∧ len0 ≤ cap0 ∧ cap0 ≤ maxLen ∧ z0.length = cap0 ∧ (∀ i, i < z0.length → w.cell? (x.add i) = some (.int .u8 (z0.getD i 0))) ∧ ∀ n ∈ z0, (Lit.int .u8 n).wf = true) (y0 : len0 * 1 ≤ 140737488351232) (w1 : (a1 = none ∧ len1 = 0 ∧ cap1 = 0 ∧ z1 = []) ∨ ∃ x, a1 = some x ∧ len1 ≤ cap1 ∧ cap1 ≤ maxLen ∧ z1.length = cap1 ∧ (∀ i, i < z1.length → w.cell? (x.add i) = some (.int .u8 (z1.getD i 0))) ∧ ∀ n ∈ z1, (Lit.int .u8 n).wf = true) (y1 : len1 * 1 ≤ 140737488351232) :
 Calls Tryz.prog 3 #[.slice a0 len0 cap0, .slice a1 len1 cap1] w fun e w'=>e= .returned (.bool true)∧Below w.heap.size w w':=by
 obtain ⟨l0,rfl,hr0,hm0,hw0,hc0⟩:=Qdt.ofRowC w0;obtain ⟨l1,rfl,hr1,hm1,hw1,hc1⟩:=Qdt.ofRowC w1;obtain ⟨k,h⟩:=P l0 l1 hm0 y0 hw0 hm1 y1 hw1;refine (laws_FnRowvacuation.calls k _ _ l0 _ _ l1 true w (Kd.C_of_reads (d:=(0:Int)) (h1:=fun _=>rfl) hr0) hc0 (Kd.C_of_reads (d:=(0:Int)) (h1:=fun _=>rfl) hr1) hc1 h).mono ?_;rintro e w' ⟨rfl,hd⟩;exact ⟨rfl,hd⟩
end Go.Proofs.YtkgngggppcmpfaaGreat.L
end
section
namespace Go.Proofs.YtkgngggppcmpfaaGreat.M
open Go.RowKit Go.Proofs.YtkgngggppcmpfaaGreatW.PrintWords Go.Proofs.YtkgngggppcmpfaaGreatW.PrintLast Go.Proofs.YtkgngggppcmpfaaGreatW.PrintMore
theorem Qdg {x : Int} (h0 : -9223372036854775808 ≤ x) (h1 : x ≤ 9223372036854775807) : wrap64 x = x := by unfold wrap64; omega
theorem Qbz {i : Nat} (h : i < 9223372036854775807) : wrap64 ((i : Int) + 1) = ((i + 1 : Nat) : Int) := by unfold wrap64; omega
theorem Qjv {l : List Int} {i : Nat} (h : i < l.length) : rd l (i : Int) = l[i] := by simp [rd, List.getD_eq_getElem?_getD, h]
theorem Qgs {α : Type} {g : Nat → Option α} {r r' : α} (h : Ev g r) (h' : Ev g r') : r = r' := by
 obtain ⟨K, h⟩ := h; obtain ⟨K', h'⟩ := h'
 have a := h (max K K') (by omega); have b := h' (max K K') (by omega)
 exact Option.some.inj (a.symm.trans b)
theorem Qc7 {α : Type} {c : Prop} [Decidable c] {f g : Nat → Option α} {r : α} (h1 : c → Ev f r) (h2 : ¬ c → Ev g r) : Ev (fun k => if c then f k else g k) r := by
 by_cases h : c
 ·
  obtain ⟨K, hK⟩ := h1 h; exact ⟨K, fun k hk => by simp only [if_pos h]; exact hK k hk⟩
 ·
  obtain ⟨K, hK⟩ := h2 h; exact ⟨K, fun k hk => by simp only [if_neg h]; exact hK k hk⟩
theorem Qh {α : Type} {c : Prop} [Decidable c] {f g : Nat → Option α} {r : α} (h : c) (h1 : Ev f r) : Ev (fun k => if c then f k else g k) r := Qc7 (fun _ => h1) (fun h2 => absurd h h2)
theorem Qbj {α : Type} {c : Prop} [Decidable c] {f g : Nat → Option α} {r : α} (h : ¬ c) (h1 : Ev g r) : Ev (fun k => if c then f k else g k) r := Qc7 (fun h2 => absurd h2 h) (fun _ => h1)
theorem Qbv {α β : Type} {x : Option α} {a : α} {f : Nat → α → Option β} {r : β} (h : x = some a) (k : Ev (fun n => f n a) r) : Ev (fun n => x.bind (f n)) r := by subst h; simpa using k
def inB (x lo hi : Int) : Bool := decide (lo ≤ x) && decide (x ≤ hi)
theorem Qex {x lo hi : Int} : inB x lo hi = true ↔ lo ≤ x ∧ x ≤ hi := by simp [inB]
end Go.Proofs.YtkgngggppcmpfaaGreat.M
end
section
namespace Go.Proofs.YtkgngggppcmpfaaGreat.M
set_option linter.unusedVariables false
structure Sys {α : Type} (t : α → Nat → α) (I : α → Prop) (H : Nat) : Prop where
 keep : ∀ s r, I s → r < H → I (t s r)
 inv : ∀ s r, I s → r < H → t (t s r) r = s
 com : ∀ s i j, I s → i < H → j < H → i + 2 ≤ j → t (t s i) j = t (t s j) i
def Wq {α : Type} (t : α → Nat → α) (I : α → Prop) (u v : List Nat) : Prop := ∀ s, I s → u.foldl t s = v.foldl t s
def In (H : Nat) (u : List Nat) : Prop := ∀ x ∈ u, x < H
def Far (u v : List Nat) : Prop := ∀ x ∈ u, ∀ y ∈ v, x + 2 ≤ y ∨ y + 2 ≤ x
theorem In.app {H : Nat} {u v : List Nat} (h : In H u) (h' : In H v) : In H (u ++ v) := fun x hx => (List.mem_append.mp hx).elim (h x) (h' x)
theorem In.rev {H : Nat} {u : List Nat} (h : In H u) : In H u.reverse := fun x hx => h x (List.mem_reverse.mp hx)
theorem In.mono {H K : Nat} {u : List Nat} (h : In H u) (hk : H ≤ K) : In K u := fun x hx => Nat.lt_of_lt_of_le (h x hx) hk
section
variable {α : Type} {t : α → Nat → α} {I : α → Prop} {H K : Nat}
theorem Sys.foldI (S : Sys t I H) : ∀ (u : List Nat) (s : α), In H u → I s → I (u.foldl t s)
 | [], _, _, h => h
 | x :: u, s, hu, h => S.foldI u _ (fun y hy => hu y (List.mem_cons_of_mem _ hy)) (S.keep s x h (hu x List.mem_cons_self))
theorem Wq.rfl' (u : List Nat) : Wq t I u u := fun _ _ => rfl
theorem Wq.symm {u v : List Nat} (h : Wq t I u v) : Wq t I v u := fun s hs => (h s hs).symm
theorem Wq.trans {u v w : List Nat} (h : Wq t I u v) (h' : Wq t I v w) : Wq t I u w := fun s hs => (h s hs).trans (h' s hs)
theorem Sys.app (S : Sys t I H) {u u' v v' : List Nat} (hu : In H u) (h : Wq t I u u') (h' : Wq t I v v') : Wq t I (u ++ v) (u' ++ v') := fun s hs => by
 rw [List.foldl_append, List.foldl_append, h' _ (S.foldI u s hu hs), h s hs]
theorem Sys.left (S : Sys t I H) {v v' : List Nat} (u : List Nat) (hu : In H u) (h' : Wq t I v v') : Wq t I (u ++ v) (u ++ v') := S.app hu (Wq.rfl' u) h'
theorem Wq.right {u u' : List Nat} (h : Wq t I u u') (v : List Nat) : Wq t I (u ++ v) (u' ++ v) := fun s hs => by
 rw [List.foldl_append, List.foldl_append, h s hs]
theorem Sys.cancel (S : Sys t I H) : ∀ (u : List Nat), In H u → Wq t I (u ++ u.reverse) []
 | [], _ => Wq.rfl' _
 | x :: u, hu => fun s hs => by
  have hx := hu x List.mem_cons_self
  have hu' : In H u := fun y hy => hu y (List.mem_cons_of_mem _ hy)
  have ih := S.cancel u hu' (t s x) (S.keep s x hs hx)
  rw [List.reverse_cons, ← List.append_assoc, List.foldl_append, List.cons_append]
  show t ((u ++ u.reverse).foldl t (t s x)) x = s
  rw [ih]
  exact S.inv s x hs hx
theorem Sys.cancel' (S : Sys t I H) (u : List Nat) (hu : In H u) : Wq t I (u.reverse ++ u) [] := by
 have h := S.cancel u.reverse hu.rev
 rwa [List.reverse_reverse] at h
theorem Sys.swap1 (S : Sys t I H) {i : Nat} (hi : i < H) : ∀ (v : List Nat), In H v → Far [i] v → Wq t I (i :: v) (v ++ [i])
 | [], _, _ => Wq.rfl' _
 | y :: v, hv, hf => fun s hs => by
  have hy := hv y List.mem_cons_self
  have hv' : In H v := fun z hz => hv z (List.mem_cons_of_mem _ hz)
  have ih := S.swap1 hi v hv' (fun a ha b hb => hf a ha b (List.mem_cons_of_mem _ hb)) (t s y) (S.keep s y hs hy)
  have c : t (t s i) y = t (t s y) i := by
   rcases hf i List.mem_cons_self y List.mem_cons_self with h | h
   ·
    exact S.com s i y hs hi hy h
   ·
    exact (S.com s y i hs hy hi h).symm
  rw [List.cons_append, List.foldl_cons, List.foldl_cons, List.foldl_cons, c]
  exact ih
theorem Sys.swap (S : Sys t I H) : ∀ (u v : List Nat), In H u → In H v → Far u v → Wq t I (u ++ v) (v ++ u)
 | [], v, _, _, _ => by rw [List.nil_append, List.append_nil]; exact Wq.rfl' _
 | x :: u, v, hu, hv, hf => by
  have hx := hu x List.mem_cons_self
  have hu' : In H u := fun z hz => hu z (List.mem_cons_of_mem _ hz)
  have ih := S.swap u v hu' hv fun a ha b hb => hf a (List.mem_cons_of_mem _ ha) b hb
  have h1 : Wq t I ([x] ++ (u ++ v)) ([x] ++ (v ++ u)) := S.left [x] (fun z hz => by rw [List.mem_singleton] at hz; omega) ih
  have h2 := (S.swap1 hx v hv fun a ha b hb => hf a (by rw [List.mem_singleton] at ha; subst ha; exact List.mem_cons_self) b hb).right u
  have e : v ++ [x] ++ u = v ++ (x :: u) := by simp
  rw [e] at h2
  exact h1.trans h2
def Bk (i d : Nat) : List Nat := (List.range' i d).reverse
def Vf : Nat → Nat → List Nat
 | _, 0 => []
 | i, d + 1 => Bk i (d + 1) ++ Vf (i + 1) d
theorem Qk4 {i d : Nat} (h : i + d ≤ H) : In H (Bk i d) := fun x hx => by
 rw [Bk, List.mem_reverse, List.mem_range'_1] at hx; omega
theorem Qoc {i d : Nat} (h : i + d ≤ H) : In H (List.range' i d) := fun x hx => by
 rw [List.mem_range'_1] at hx; omega
theorem Qnh {x : Nat} : ∀ {d i : Nat}, x ∈ Vf i d → i ≤ x ∧ x < i + d
 | 0, i, h => by simp [Vf] at h
 | d + 1, i, h => by
  rw [Vf, List.mem_append, Bk, List.mem_reverse, List.mem_range'_1] at h
  rcases h with h | h
  ·
   exact h
  ·
   have := Qnh h; omega
theorem Qk7 {i d : Nat} (h : i + d ≤ H) : In H (Vf i d) := fun x hx => by have := Qnh hx; omega
theorem Bk_split (i d : Nat) : Bk i (d + 1) = Bk (i + 1) d ++ [i] := by unfold Bk; rw [List.range'_succ, List.reverse_cons]
theorem Sys.vacA (S : Sys t I H) : ∀ (d i : Nat), i + d + 1 ≤ H → Wq t I (Vf i (d + 1)) (Vf (i + 1) d ++ List.range' i (d + 1))
 | 0, i, h => Wq.rfl' _
 | d + 1, i, h => by
  have ih := S.vacA d (i + 1) (by omega)
  have b1 : In H (Bk (i + 1) (d + 1)) := Qk4 (by omega)
  have b2 : In H [i] := fun z hz => by rw [List.mem_singleton] at hz; omega
  have b3 : In H (Vf (i + 2) d) := Qk7 (by omega)
  have h1 : Wq t I (Bk (i + 1) (d + 1) ++ [i] ++ Vf (i + 1) (d + 1)) (Bk (i + 1) (d + 1) ++ [i] ++ (Vf (i + 2) d ++ List.range' (i + 1) (d + 1))) := S.left _ (b1.app b2) ih
  have h2 : Wq t I ([i] ++ Vf (i + 2) d) (Vf (i + 2) d ++ [i]) := S.swap _ _ b2 b3 fun x hx y hy => by
   rw [List.mem_singleton] at hx
   have := Qnh hy; omega
  have h3 := S.left _ b1 (h2.right (List.range' (i + 1) (d + 1)))
  have e1 : Vf i (d + 1 + 1) = Bk (i + 1) (d + 1) ++ [i] ++ Vf (i + 1) (d + 1) := by rw [Vf, Bk_split]
  have e2 : Vf (i + 1) (d + 1) ++ List.range' i (d + 1 + 1) = Bk (i + 1) (d + 1) ++ (Vf (i + 2) d ++ [i] ++ List.range' (i + 1) (d + 1)) := by
   rw [Vf, List.range'_succ (s := i)]; simp
  rw [e1, e2]
  refine h1.trans ?_
  have e3 : Bk (i + 1) (d + 1) ++ [i] ++ (Vf (i + 2) d ++ List.range' (i + 1) (d + 1)) = Bk (i + 1) (d + 1) ++ ([i] ++ Vf (i + 2) d ++ List.range' (i + 1) (d + 1)) := by simp
  rw [e3]
  exact h3
theorem Sys.vacRev (S : Sys t I H) : ∀ (d i : Nat), i + d ≤ H → Wq t I (Vf i d) (Vf i d).reverse
 | 0, i, h => Wq.rfl' _
 | d + 1, i, h => by
  have h1 := S.vacA d i (by omega)
  have h2 := (S.vacRev d (i + 1) (by omega)).right (List.range' i (d + 1))
  have e : (Vf i (d + 1)).reverse = (Vf (i + 1) d).reverse ++ List.range' i (d + 1) := by rw [Vf, List.reverse_append, Bk, List.reverse_reverse]
  rw [e]
  exact h1.trans h2
theorem Sys.vacInv (S : Sys t I H) {d i : Nat} (h : i + d ≤ H) : Wq t I (Vf i d ++ Vf i d) [] :=
 (S.left _ (Qk7 h) (S.vacRev d i h)).trans (S.cancel _ (Qk7 h))
theorem Sys.vacTurn (S : Sys t I H) {d i : Nat} (h : i + d + 1 ≤ H) : Wq t I (Bk i (d + 1) ++ Vf i (d + 1) ++ Bk i (d + 1)) (Vf i (d + 1)) := by
 have b : In H (Bk i (d + 1)) := Qk4 (by omega)
 have v : In H (Vf (i + 1) d) := Qk7 (by omega)
 have c : Wq t I (List.range' i (d + 1) ++ Bk i (d + 1)) [] := S.cancel _ (Qoc (by omega))
 have h1 := (S.left _ b (S.vacA d i h)).right (Bk i (d + 1))
 have h2 := S.left _ (b.app v) c
 rw [List.append_nil] at h2
 have e : Bk i (d + 1) ++ (Vf (i + 1) d ++ List.range' i (d + 1)) ++ Bk i (d + 1) = Bk i (d + 1) ++ Vf (i + 1) d ++ (List.range' i (d + 1) ++ Bk i (d + 1)) := by simp
 rw [e] at h1
 rw [Vf] at h1 ⊢
 exact h1.trans h2
theorem Qi1 (t : α → Nat → α) (H : Nat) : ∀ (u : List Nat) (s : α), u.foldl (fun s r => t s (H - r)) s = (u.map (H - ·)).foldl t s
 | [], _ => rfl
 | x :: u, s => by rw [List.foldl_cons, List.map_cons, List.foldl_cons]; exact Qi1 t H u _
theorem Sys.flip (S : Sys t I H) : Sys (fun s r => t s (H - 1 - r)) I H :=
 ⟨fun s r hs hr => S.keep _ _ hs (by omega), fun s r hs hr => S.inv _ _ hs (by omega), fun s i j hs hi hj h => (S.com s (H - 1 - j) (H - 1 - i) hs (by omega) (by omega) (by omega)).symm⟩
theorem Wq.unflip {K : Nat} {u v : List Nat} (h : Wq (fun s r => t s (K - r)) I u v) : Wq t I (u.map (K - ·)) (v.map (K - ·)) := fun s hs => by
 rw [← Qi1, ← Qi1]; exact h s hs
theorem Qn2 (K i : Nat) : ∀ d, i + d ≤ K + 1 → (Bk i d).map (K - ·) = List.range' (K + 1 - (i + d)) d
 | 0, _ => rfl
 | d + 1, h => by
  rw [Bk, List.range'_1_concat, List.reverse_append, List.reverse_singleton, List.singleton_append, List.map_cons]
  have := Qn2 K i d (by omega)
  rw [Bk] at this
  rw [this, List.range'_succ]
  congr 1
  ·
   omega
  ·
   congr 1; omega
def Gf : Nat → List Nat
 | 0 => []
 | n + 1 => Gf n ++ Bk 0 (n + 1)
theorem Qnf {x : Nat} : ∀ {n : Nat}, x ∈ Gf n → x < n
 | 0, h => by simp [Gf] at h
 | n + 1, h => by
  rw [Gf, List.mem_append, Bk, List.mem_reverse, List.mem_range'_1] at h
  rcases h with h | h
  ·
   have := Qnf h; omega
  ·
   omega
theorem flipVf (K : Nat) : ∀ (d i : Nat), i + d = K + 1 → ((Vf i d).map (K - ·)).reverse = Gf d
 | 0, _, _ => rfl
 | d + 1, i, h => by
  rw [Vf, List.map_append, List.reverse_append, flipVf K d (i + 1) (by omega), Qn2 K i (d + 1) (by omega), Gf, Bk, show K + 1 - (i + (d + 1)) = 0 by omega]
def repB (H : Nat) : Nat → List Nat
 | 0 => []
 | n + 1 => Bk 0 H ++ repB H n
theorem Bk_two (a b : Nat) : Bk 0 (a + b) = Bk a b ++ Bk 0 a := by
 unfold Bk
 rw [← List.reverse_append, ← List.range'_append_1, Nat.zero_add]
theorem Sys.vacRep (S : Sys t I H) : ∀ (d i : Nat), i + d = H → Wq t I (Gf i ++ repB H d) (Vf (i + 1) (d - 1) ++ Gf H)
 | 0, i, h => by
  have : i = H := by omega
  subst this
  rw [repB, List.append_nil]; exact Wq.rfl' _
 | d + 1, i, h => by
  have ih := S.vacRep d (i + 1) (by omega)
  have g : In H (Gf i) := fun x hx => by have := Qnf hx; omega
  have b : In H (Bk (i + 1) d) := Qk4 (by omega)
  have e0 : Bk 0 H = Bk (i + 1) d ++ Bk 0 (i + 1) := by rw [← Bk_two, show i + 1 + d = H by omega]
  have h1 : Wq t I (Gf i ++ Bk (i + 1) d) (Bk (i + 1) d ++ Gf i) := S.swap _ _ g b fun x hx y hy => by
   have := Qnf hx
   rw [Bk, List.mem_reverse, List.mem_range'_1] at hy; omega
  have h2 := h1.right (Bk 0 (i + 1) ++ repB H d)
  have h3 := S.left _ b ih
  have e1 : Gf i ++ repB H (d + 1) = Gf i ++ Bk (i + 1) d ++ (Bk 0 (i + 1) ++ repB H d) := by rw [repB, e0]; simp
  have e2 : Bk (i + 1) d ++ Gf i ++ (Bk 0 (i + 1) ++ repB H d) = Bk (i + 1) d ++ (Gf (i + 1) ++ repB H d) := by rw [Gf]; simp
  have e3 : Vf (i + 1) (d + 1 - 1) ++ Gf H = Bk (i + 1) d ++ (Vf (i + 1 + 1) (d - 1) ++ Gf H) := by
   cases d with
   | zero => rfl
   | succ d => show Vf (i + 1) (d + 1) ++ Gf H = _; rw [Vf]; simp
  rw [e1, e3]
  rw [e2] at h2
  exact h2.trans h3
theorem Sys.vacBoth (S : Sys t I (K + 1)) : Wq t I (Vf 0 (K + 1) ++ (Vf 0 (K + 1)).map (K - ·)) (repB (K + 1) (K + 2)) := by
 have h1 := S.vacRep (K + 1) 0 (by omega)
 have v : In (K + 1) (Vf 0 (K + 1)) := Qk7 (by omega)
 have h2 := S.left (Bk 0 (K + 1)) (Qk4 (by omega)) h1
 have e1 : Bk 0 (K + 1) ++ (Gf 0 ++ repB (K + 1) (K + 1)) = repB (K + 1) (K + 2) := by rw [Gf, List.nil_append]; rfl
 have e2 : Bk 0 (K + 1) ++ (Vf (0 + 1) (K + 1 - 1) ++ Gf (K + 1)) = Vf 0 (K + 1) ++ Gf (K + 1) := by
  rw [Vf]; simp
 rw [e1, e2] at h2
 have h3 := (S.flip.vacRev (K + 1) 0 (by omega)).unflip
 rw [show K + 1 - 1 = K by omega] at h3
 rw [List.map_reverse, flipVf K (K + 1) 0 (by omega)] at h3
 exact (S.left _ v h3).trans h2.symm
theorem Sys.dualInv (S : Sys t I (K + 1)) : Wq t I ((Vf 0 (K + 1)).map (K - ·) ++ (Vf 0 (K + 1)).map (K - ·)) [] := by
 have h := (S.flip.vacInv (d := K + 1) (i := 0) (by omega)).unflip
 rw [show K + 1 - 1 = K by omega] at h
 rw [List.map_append] at h; exact h
theorem Sys.dualTurn (S : Sys t I (K + 1)) : Wq t I (Bk 0 (K + 1) ++ (Vf 0 (K + 1)).map (K - ·) ++ Bk 0 (K + 1)) ((Vf 0 (K + 1)).map (K - ·)) := by
 have h := (S.flip.vacTurn (d := K) (i := 0) (by omega)).unflip
 rw [show K + 1 - 1 = K by omega] at h
 rw [List.map_append, List.map_append, Qn2 K 0 (K + 1) (by omega), show K + 1 - (0 + (K + 1)) = 0 by omega] at h
 have b : In (K + 1) (Bk 0 (K + 1)) := Qk4 (by omega)
 have m : In (K + 1) ((Vf 0 (K + 1)).map (K - ·)) := fun x hx => by
  rw [List.mem_map] at hx; obtain ⟨y, _, rfl⟩ := hx; omega
 have r : In (K + 1) (List.range' 0 (K + 1)) := Qoc (by omega)
 have h1 := S.left _ b (h.symm.right (Bk 0 (K + 1)))
 have c1 : Wq t I (Bk 0 (K + 1) ++ List.range' 0 (K + 1)) [] := S.cancel' _ r
 have c2 : Wq t I (List.range' 0 (K + 1) ++ Bk 0 (K + 1)) [] := S.cancel _ r
 have e : Bk 0 (K + 1) ++ (List.range' 0 (K + 1) ++ (Vf 0 (K + 1)).map (K - ·) ++ List.range' 0 (K + 1) ++ Bk 0 (K + 1)) = (Bk 0 (K + 1) ++ List.range' 0 (K + 1)) ++ ((Vf 0 (K + 1)).map (K - ·) ++ (List.range' 0 (K + 1) ++ Bk 0 (K + 1))) := by simp
 rw [e] at h1
 rw [List.append_assoc]
 refine h1.trans ?_
 have h2 := S.app (b.app r) c1 (S.left _ m c2)
 simpa using h2
end
end Go.Proofs.YtkgngggppcmpfaaGreat.M
end
section
namespace Go.Proofs.YtkgngggppcmpfaaGreat.L
open Go.RowKit Go.Proofs.YtkgngggppcmpfaaGreatW.PrintWords Go.Proofs.YtkgngggppcmpfaaGreatW.PrintLast Go.Proofs.YtkgngggppcmpfaaGreatW.PrintMore Go.Proofs.YtkgngggppcmpfaaGreat.X
attribute [local go_sem] Qt Qv Q2 Q3 Qm Qn Qu Qw
set_option linter.unusedVariables false
set_option linter.unusedSimpArgs false
end Go.Proofs.YtkgngggppcmpfaaGreat.L
end
section
namespace Go.Proofs.YtkgngggppcmpfaaGreat.L
open Go.RowKit Go.Proofs.YtkgngggppcmpfaaGreatW.PrintWords Go.Proofs.YtkgngggppcmpfaaGreatW.PrintLast Go.Proofs.YtkgngggppcmpfaaGreatW.PrintMore
attribute [local go_sem] Qt Qv Q2 Q3 Qm Qn Qu Qw
set_option linter.unusedVariables false
set_option linter.unusedSimpArgs false
end Go.Proofs.YtkgngggppcmpfaaGreat.L
end
section
namespace Go.Proofs.YtkgngggppcmpfaaGreat.L
open Go.RowKit Go.Proofs.YtkgngggppcmpfaaGreatW.PrintWords Go.Proofs.YtkgngggppcmpfaaGreatW.PrintLast Go.Proofs.YtkgngggppcmpfaaGreatW.PrintMore Go.Proofs.YtkgngggppcmpfaaGreat.X
attribute [local go_sem] Qt Qv Q2 Q3 Qm Qn Qu Qw
set_option linter.unusedVariables false
set_option linter.unusedSimpArgs false
end Go.Proofs.YtkgngggppcmpfaaGreat.L
end
section
namespace Go.Proofs.YtkgngggppcmpfaaGreat.M
open Go.RowKit Go.Proofs.YtkgngggppcmpfaaGreatW.PrintWords Go.Proofs.YtkgngggppcmpfaaGreatW.PrintLast Go.Proofs.YtkgngggppcmpfaaGreatW.PrintMore
def sd (a b : Nat) : Nat := a ^^^ (a &&& b)
theorem Qhc (a b i : Nat) : (sd a b).testBit i = (a.testBit i && !b.testBit i) := by
 unfold sd; rw [Nat.testBit_xor, Nat.testBit_and]; cases a.testBit i <;> cases b.testBit i <;> rfl
theorem Qmf {a b : Nat} : sd a b = 0 ↔ ∀ i, a.testBit i = true → b.testBit i = true := by
 constructor
 ·
  intro h i ha
  have := Qhc a b i
  rw [h, Nat.zero_testBit, ha] at this
  cases hb : b.testBit i
  ·
   rw [hb] at this; simp at this
  ·
   rfl
 ·
  intro h
  apply Nat.eq_of_testBit_eq
  intro i
  rw [Qhc, Nat.zero_testBit]
  cases ha : a.testBit i
  ·
   rfl
  ·
   rw [h i ha]; rfl
theorem sd_le (a b : Nat) : sd a b ≤ a := by
 have e : sd a b = sd a b &&& a := by
  apply Nat.eq_of_testBit_eq
  intro i
  rw [Nat.testBit_and, Qhc]
  cases a.testBit i <;> cases b.testBit i <;> rfl
 rw [e]; exact Nat.and_le_right
theorem Qi6 {a : Nat} (b : Nat) {n : Nat} (h : a < 2 ^ n) : sd a b < 2 ^ n := Nat.lt_of_le_of_lt (sd_le a b) h
theorem Qg2 {x : Nat} (h : x < 2 ^ 63) : IntKind.i64.wrap (x : Int) = (x : Int) := by
 rw [IntKind.wrap_i64]
 have : (x : Int) < 9223372036854775808 := by
  have h2 : (2 : Nat) ^ 63 = 9223372036854775808 := by decide
  omega
 omega
theorem Qfq {a : Nat} (h : a < 2 ^ 63) : (BitVec.ofInt IntKind.i64.bits (a : Int)).toNat = a := by
 have e : IntKind.i64.bits = 64 := rfl
 rw [e, BitVec.ofInt_natCast, BitVec.toNat_ofNat]
 exact Nat.mod_eq_of_lt (Nat.lt_of_lt_of_le h (by decide))
theorem Qgb {a b : Nat} (ha : a < 2 ^ 63) (hb : b < 2 ^ 63) : Go.bits .or .i64 (a : Int) (b : Int) = ((a ||| b : Nat) : Int) := by
 simp only [Go.bits, BitVec.toNat_or, Qfq ha, Qfq hb]
 exact Qg2 (Nat.or_lt_two_pow ha hb)
theorem Qks {a b : Nat} (ha : a < 2 ^ 63) (hb : b < 2 ^ 63) : Go.bits .and .i64 (a : Int) (b : Int) = ((a &&& b : Nat) : Int) := by
 simp only [Go.bits, BitVec.toNat_and, Qfq ha, Qfq hb]
 exact Qg2 (Nat.and_lt_two_pow _ hb)
theorem Qnk {a b : Nat} (ha : a < 2 ^ 63) (hb : b < 2 ^ 63) : Go.bits .xor .i64 (a : Int) (b : Int) = ((a ^^^ b : Nat) : Int) := by
 simp only [Go.bits, BitVec.toNat_xor, Qfq ha, Qfq hb]
 exact Qg2 (Nat.xor_lt_two_pow ha hb)
theorem Qfk {a b : Nat} (ha : a < 2 ^ 63) (hb : b < 2 ^ 63) : Go.bits .andNot .i64 (a : Int) (b : Int) = ((sd a b : Nat) : Int) := by
 have e : (BitVec.ofInt IntKind.i64.bits (a : Int) &&& ~~~(BitVec.ofInt IntKind.i64.bits (b : Int))).toNat = sd a b := by
  apply Nat.eq_of_testBit_eq
  intro i
  rw [BitVec.toNat_and, Nat.testBit_and, Qfq ha, Qhc]
  cases hai : a.testBit i
  ·
   rfl
  ·
   have hi : i < 64 := by
    apply Nat.lt_of_not_le; intro h
    have : a < 2 ^ i := Nat.lt_of_lt_of_le ha (Nat.pow_le_pow_right (by decide) (by omega))
    rw [Nat.testBit_lt_two_pow this] at hai; cases hai
   have e2 : (~~~(BitVec.ofInt IntKind.i64.bits (b : Int))).toNat.testBit i = (~~~(BitVec.ofInt IntKind.i64.bits (b : Int))).getLsbD i := rfl
   have e3 : (BitVec.ofInt IntKind.i64.bits (b : Int)).getLsbD i = b.testBit i := by
    show (BitVec.ofInt IntKind.i64.bits (b : Int)).toNat.testBit i = _
    rw [Qfq hb]
   rw [e2, BitVec.getLsbD_not, e3]
   have : decide (i < IntKind.i64.bits) = true := decide_eq_true hi
   rw [this, Bool.true_and]
 simp only [Go.bits]
 rw [e]
 exact Qg2 (Qi6 b ha)
theorem Qfi {i : Nat} (h : i < 63) : shl .i64 1 (i : Int) = ((2 ^ i : Nat) : Int) := by
 unfold shl
 have e : min (i : Int).toNat IntKind.i64.bits = i := by
  have : IntKind.i64.bits = 64 := rfl
  rw [this, Int.toNat_natCast]; omega
 rw [e, Int.one_mul]
 have : ((2 : Int) ^ i) = ((2 ^ i : Nat) : Int) := by simp
 rw [this]
 exact Qg2 (Nat.pow_lt_pow_right (by decide) h)
theorem Qhw {i : Nat} (h : i < 62) : wrap64 (shl .i64 1 (i : Int) - 1) = ((2 ^ i - 1 : Nat) : Int) := by
 rw [Qfi (by omega)]
 have h1 : 0 < 2 ^ i := Nat.two_pow_pos i
 have h2 : 2 ^ i ≤ 2 ^ 62 := Nat.pow_le_pow_right (by decide) (by omega)
 have h3 : (2 : Nat) ^ 62 = 4611686018427387904 := by decide
 rw [Qdg (by omega) (by omega)]; omega
theorem Qpc {a i : Nat} (h : i ≤ 64) : shr .i64 (a : Int) (i : Int) = ((a / 2 ^ i : Nat) : Int) := by
 unfold shr
 have e : min (i : Int).toNat IntKind.i64.bits = i := by
  have : IntKind.i64.bits = 64 := rfl
  rw [this, Int.toNat_natCast]; omega
 rw [e]; simp
theorem Qoz {a i : Nat} (h : i ≤ 64) : (Int.tmod (shr .i64 (a : Int) (i : Int)) 2 == 1) = a.testBit i := by
 rw [Qpc h]
 have : Int.tmod ((a / 2 ^ i : Nat) : Int) 2 = ((a / 2 ^ i % 2 : Nat) : Int) := by
  rw [show (2 : Int) = ((2 : Nat) : Int) from rfl, Int.ofNat_tmod]
 rw [this, Nat.testBit_eq_decide_div_mod_eq, Bool.eq_iff_iff, beq_iff_eq, decide_eq_true_eq]
 omega
theorem Qnj {a i : Nat} (h : i ≤ 64) : (Int.tmod (shr .i64 (a : Int) (i : Int)) 2 = 1) ↔ a.testBit i = true := by
 rw [← Qoz h]; simp
theorem bit_and {a i : Nat} (ha : a < 2 ^ 63) (h : i ≤ 64) : (Go.bits .and .i64 (shr .i64 (a : Int) (i : Int)) 1 == 1) = a.testBit i := by
 rw [Qpc h, show (1 : Int) = ((1 : Nat) : Int) from rfl, Qks (Nat.lt_of_le_of_lt (Nat.div_le_self _ _) ha) (by decide), Nat.and_one_is_mod, Nat.testBit_eq_decide_div_mod_eq, Bool.eq_iff_iff, beq_iff_eq, decide_eq_true_eq]
 omega
theorem Qff {a i n : Nat} (h : a < 2 ^ n) (hi : a.testBit i = true) : i < n := by
 apply Nat.lt_of_not_le; intro h2
 rw [Nat.testBit_lt_two_pow (Nat.lt_of_lt_of_le h (Nat.pow_le_pow_right (by decide) h2))] at hi; cases hi
theorem lt63 {a n : Nat} (h : a < 2 ^ n) (hn : n ≤ 63) : a < 2 ^ 63 := Nat.lt_of_lt_of_le h (Nat.pow_le_pow_right (by decide) hn)
end Go.Proofs.YtkgngggppcmpfaaGreat.M
end
section
namespace Go.Proofs.YtkgngggppcmpfaaGreat.M
set_option linter.unusedVariables false
open Go.RowKit Go.Proofs.YtkgngggppcmpfaaGreatW.PrintWords Go.Proofs.YtkgngggppcmpfaaGreatW.PrintLast Go.Proofs.YtkgngggppcmpfaaGreatW.PrintMore
def toI (p : List Nat) : List Int := p.map fun (x : Nat) => (x : Int)
@[simp] theorem toI_len (p : List Nat) : (toI p).length = p.length := by simp [toI]
@[simp] theorem toI_nil : toI [] = [] := rfl
theorem Qgf (p q : List Nat) : toI (p ++ q) = toI p ++ toI q := by simp [toI]
theorem Qgq (x : Nat) : toI [x] = [(x : Int)] := rfl
theorem Qiy (p : List Nat) (i x : Nat) : (toI p).set i (x : Int) = toI (p.set i x) := by simp [toI, List.map_set]
theorem Qmj (n x : Nat) : List.replicate n (x : Int) = toI (List.replicate n x) := by simp [toI]
theorem Qec (p : List Nat) (i : Nat) : rd (toI p) (i : Int) = ((p.getD i 0 : Nat) : Int) := by
 simp only [rd, toI, Int.toNat_natCast, List.getD_eq_getElem?_getD, List.getElem?_map]
 cases p[i]? <;> simp
theorem Qmi {p q : List Nat} (h : toI p = toI q) : p = q := by
 exact (List.map_inj_right (fun a b h => Int.ofNat.inj h)).mp h
def less (p : List Nat) (i : Nat) : Nat := p.getD i 0
theorem Qky {p : List Nat} {i : Nat} (h : p.length ≤ i) : less p i = 0 := by simp [less, List.getD_eq_getElem?_getD, h]
theorem Qe0 (p : List Nat) (i : Nat) : rd (toI p) (i : Int) = ((less p i : Nat) : Int) := Qec p i
structure Good (p : List Nat) : Prop where
 pos : 1 ≤ p.length
 le : p.length ≤ 10
 lt : ∀ i, i < p.length → less p i < 2 ^ i
 tr : ∀ i, i < p.length → ∀ j, (less p i).testBit j = true → ∀ m, (less p j).testBit m = true → (less p i).testBit m = true
theorem Good.bit {p : List Nat} (g : Good p) {i j : Nat} (h : (less p i).testBit j = true) : j < i ∧ i < p.length := by
 have hi : i < p.length := by
  apply Nat.lt_of_not_le; intro h2; rw [Qky h2, Nat.zero_testBit] at h; cases h
 exact ⟨Qff (g.lt i hi) h, hi⟩
theorem Good.lt10 {p : List Nat} (g : Good p) (i : Nat) : less p i < 2 ^ p.length := by
 by_cases hi : i < p.length
 ·
  exact Nat.lt_of_lt_of_le (g.lt i hi) (Nat.pow_le_pow_right (by decide) (by omega))
 ·
  rw [Qky (by omega)]; exact Nat.two_pow_pos _
theorem Good.lt63 {p : List Nat} (g : Good p) (i : Nat) : less p i < 2 ^ 63 := M.lt63 (g.lt10 i) (by have := g.le; omega)
theorem Good.tr' {p : List Nat} (g : Good p) {i j m : Nat} (h1 : (less p i).testBit j = true) (h2 : (less p j).testBit m = true) : (less p i).testBit m = true := g.tr i (g.bit h1).2 j h1 m h2
def okAt (l : List Int) (i : Nat) : Bool := inB (l.getD i 0) 0 ((2 ^ i - 1 : Nat) : Int) && (List.range i).all fun j => !((l.getD i 0).toNat.testBit j) || sd (l.getD j 0).toNat (l.getD i 0).toNat == 0
theorem Qn6 (l : List Int) (i : Nat) : okAt l i = (inB (l.getD i 0) 0 ((2 ^ i - 1 : Nat) : Int) && (List.range i).all fun j => !((l.getD i 0).toNat.testBit j) || sd (l.getD j 0).toNat (l.getD i 0).toNat == 0) := rfl
def Qf1 (l : List Int) : Bool := inB (l.length : Int) 1 10 && (List.range' 0 l.length).all (okAt l)
theorem Qk0 {l : List Int} {i : Nat} (h : okAt l i = true) : ∃ a : Nat, l.getD i 0 = (a : Int) ∧ a < 2 ^ i := by
 simp only [okAt, Bool.and_eq_true, Qex] at h
 have := Nat.two_pow_pos i
 exact ⟨(l.getD i 0).toNat, by omega, by omega⟩
theorem Qfr {l : List Int} (h : Qf1 l = true) : ∃ p, l = toI p ∧ Good p := by
 simp only [Qf1, Bool.and_eq_true, Qex, List.all_eq_true, List.mem_range'_1] at h
 obtain ⟨⟨h1, h2⟩, h3⟩ := h
 have hn : ∀ i, i < l.length → okAt l i = true := fun i hi => h3 i (by omega)
 have e : l = toI (l.map Int.toNat) := by
  apply List.ext_getElem (by simp)
  intro i hi1 hi2
  obtain ⟨a, ha, _⟩ := Qk0 (hn i hi1)
  have hg : l.getD i 0 = l[i] := by simp [List.getD_eq_getElem?_getD, hi1]
  simp only [toI, List.getElem_map]; omega
 refine ⟨l.map Int.toNat, e, ?_⟩
 have hl : ∀ i, less (l.map Int.toNat) i = (l.getD i 0).toNat := by
  intro i
  simp only [less, List.getD_eq_getElem?_getD, List.getElem?_map]
  cases l[i]? <;> simp
 refine ⟨by simp; omega, by simp; omega, fun i hi => ?_, fun i hi j hj m hm => ?_⟩
 ·
  obtain ⟨a, ha, hb⟩ := Qk0 (hn i (by simpa using hi))
  rw [hl, ha]; simpa using hb
 ·
  have hi' : i < l.length := by simpa using hi
  have ho := hn i hi'
  obtain ⟨a, ha, hb⟩ := Qk0 ho
  simp only [okAt, Bool.and_eq_true, List.all_eq_true, List.mem_range, Bool.or_eq_true, Bool.not_eq_true', beq_iff_eq] at ho
  rw [hl] at hj hm ⊢
  have hji : j < i := by rw [ha] at hj; exact Qff hb (by simpa using hj)
  rcases ho.2 j hji with hz | hz
  ·
   rw [hj] at hz; cases hz
  ·
   exact Qmf.mp hz m hm
theorem Qh4 {p : List Nat} (g : Good p) : Qf1 (toI p) = true := by
 simp only [Qf1, Bool.and_eq_true, Qex, List.all_eq_true, List.mem_range'_1, toI_len]
 have hl : ∀ i, (toI p).getD i 0 = (less p i : Int) := fun i => by
  have := Qe0 p i
  simpa [rd] using this
 have gp := g.pos
 have gl := g.le
 refine ⟨⟨by omega, by omega⟩, fun i hi => ?_⟩
 have hi' : i < p.length := by omega
 have h1 := g.lt i hi'
 simp only [okAt, Bool.and_eq_true, Qex, List.all_eq_true, List.mem_range, Bool.or_eq_true, Bool.not_eq_true', beq_iff_eq, hl, Int.toNat_natCast]
 refine ⟨⟨by omega, by omega⟩, fun j hj => ?_⟩
 cases hb : (less p i).testBit j
 ·
  exact .inl rfl
 ·
  exact .inr (Qmf.mpr fun m hm => g.tr i hi' j hb m hm)
def Qcy (m : Nat) : List Nat := (List.range 10).filter fun e => m.testBit e
theorem Qh6 {m e : Nat} : e ∈ Qcy m ↔ e < 10 ∧ m.testBit e = true := by simp [Qcy]
theorem Qf6 (m : Nat) : (Qcy m).length ≤ 10 := by
 have := List.length_filter_le (fun e => m.testBit e) (List.range 10)
 simpa [Qcy] using this
def Qcn {α : Type} (n s : Nat) (f : α → Nat → α) (a : α) : α := (List.range n).foldl (fun a e => if s.testBit e = true then f a e else a) a
theorem Qop {α : Type} (s : Nat) (f : α → Nat → α) (a : α) : (Qcy s).foldl f a = Qcn 10 s f a := by
 unfold Qcy Qcn; rw [List.foldl_filter]
theorem Qlj {α : Type} (s : Nat) (f : α → Nat → α) : ∀ (l : List Nat) (a : α), (∀ e ∈ l, s.testBit e = false) → l.foldl (fun a e => if s.testBit e = true then f a e else a) a = a
 | [], _, _ => rfl
 | x :: l, a, h => by
  rw [List.foldl_cons, if_neg (by rw [h x List.mem_cons_self]; simp)]
  exact Qlj s f l a fun e he => h e (List.mem_cons_of_mem _ he)
theorem Qoo {α : Type} {n m s : Nat} (f : α → Nat → α) (a : α) (h : s < 2 ^ n) (hm : n ≤ m) : Qcn m s f a = Qcn n s f a := by
 unfold Qcn
 obtain ⟨d, rfl⟩ := Nat.exists_eq_add_of_le hm
 rw [List.range_add, List.foldl_append]
 apply Qlj
 intro e he
 simp only [List.mem_map, List.mem_range] at he
 obtain ⟨x, _, rfl⟩ := he
 exact Nat.testBit_lt_two_pow (Nat.lt_of_lt_of_le h (Nat.pow_le_pow_right (by decide) (by omega)))
theorem Qfg {α : Type} {n s : Nat} (f : α → Nat → α) (a : α) (h : s < 2 ^ n) (hn : n ≤ 10) : (Qcy s).foldl f a = Qcn n s f a := by
 rw [Qop, Qoo f a h hn]
theorem Qdq {α : Type} (n s : Nat) (f : α → Nat → α) (a : α) : Qcn (n + 1) s f a = if s.testBit n = true then f (Qcn n s f a) n else Qcn n s f a := by
 unfold Qcn; rw [List.range_succ, List.foldl_append]; rfl
theorem Qea {α : Type} (n s : Nat) (f : α → Nat → α) (a : α) (I : α → Prop) (h0 : I a) (h : ∀ a e, I a → e < n → s.testBit e = true → I (f a e)) : I (Qcn n s f a) := by
 induction n with
 | zero => exact h0
 | succ n ih =>
  have ih := ih fun a e ha he hs => h a e ha (by omega) hs
  rw [Qdq]
  split
  ·
   exact h _ _ ih (by omega) (by assumption)
  ·
   exact ih
def full (p : List Nat) : Nat := 2 ^ p.length - 1
theorem Qio (p : List Nat) : full p < 2 ^ p.length := by have := Nat.two_pow_pos p.length; unfold full; omega
theorem Qku (p : List Nat) (i : Nat) : (full p).testBit i = decide (i < p.length) := by unfold full; rw [Nat.testBit_two_pow_sub_one]
def Qgc (p : List Nat) (s : Nat) : Nat := Qcn p.length s (fun o e => o ||| less p e) s
theorem close_lt {p : List Nat} (g : Good p) {s : Nat} (h : s < 2 ^ p.length) : Qgc p s < 2 ^ p.length :=
 Qea _ _ _ _ (· < 2 ^ p.length) h (fun a e ha _ _ => Nat.or_lt_two_pow ha (g.lt10 e))
theorem Qlg (p : List Nat) (s a i : Nat) : ∀ n, (Qcn n s (fun o e => o ||| less p e) a).testBit i = true ↔ (a.testBit i = true ∨ ∃ e, e < n ∧ s.testBit e = true ∧ (less p e).testBit i = true)
 | 0 => by simp [Qcn]
 | n + 1 => by
  rw [Qdq]
  have ih := Qlg p s a i n
  split
  ·
   rename_i hs
   rw [Nat.testBit_or, Bool.or_eq_true, ih]
   constructor
   ·
    rintro ((h | ⟨e, h1, h2, h3⟩) | h)
    ·
     exact .inl h
    ·
     exact .inr ⟨e, by omega, h2, h3⟩
    ·
     exact .inr ⟨n, by omega, hs, h⟩
   ·
    rintro (h | ⟨e, h1, h2, h3⟩)
    ·
     exact .inl (.inl h)
    ·
     by_cases he : e = n
     ·
      subst he; exact .inr h3
     ·
      exact .inl (.inr ⟨e, by omega, h2, h3⟩)
  ·
   rename_i hs
   rw [ih]
   constructor
   ·
    rintro (h | ⟨e, h1, h2, h3⟩)
    ·
     exact .inl h
    ·
     exact .inr ⟨e, by omega, h2, h3⟩
   ·
    rintro (h | ⟨e, h1, h2, h3⟩)
    ·
     exact .inl h
    ·
     by_cases he : e = n
     ·
      subst he; exact absurd h2 hs
     ·
      exact .inr ⟨e, by omega, h2, h3⟩
theorem Qjh {p : List Nat} {s i : Nat} (h : s < 2 ^ p.length) : (Qgc p s).testBit i = true ↔ (s.testBit i = true ∨ ∃ e, s.testBit e = true ∧ (less p e).testBit i = true) := by
 unfold Qgc; rw [Qlg]
 constructor
 ·
  rintro (h1 | ⟨e, _, h1⟩)
  ·
   exact .inl h1
  ·
   exact .inr ⟨e, h1⟩
 ·
  rintro (h1 | ⟨e, h1⟩)
  ·
   exact .inl h1
  ·
   exact .inr ⟨e, Qff h h1.1, h1⟩
def IsId (p : List Nat) (s : Nat) : Prop := s < 2 ^ p.length ∧ ∀ e, s.testBit e = true → ∀ i, (less p e).testBit i = true → s.testBit i = true
def Qei (p : List Nat) (s : Nat) : Bool := (List.range' 0 p.length).all fun e => !(s.testBit e) || sd (less p e) s == 0
theorem Qe8 {p : List Nat} {s : Nat} (h : s < 2 ^ p.length) : Qei p s = true ↔ IsId p s := by
 simp only [Qei, IsId, List.all_eq_true, List.mem_range'_1, Bool.or_eq_true, Bool.not_eq_true', beq_iff_eq, Qmf]
 constructor
 ·
  intro h1
  refine ⟨h, fun e he => ?_⟩
  rcases h1 e ⟨by omega, by have := Qff h he; omega⟩ with h2 | h2
  ·
   rw [he] at h2; cases h2
  ·
   exact h2
 ·
  rintro ⟨_, h1⟩ e _
  cases he : s.testBit e
  ·
   exact .inl rfl
  ·
   exact .inr (h1 e he)
theorem Qhp {p : List Nat} {s : Nat} (h : s < 2 ^ p.length) : Qgc p s = s ↔ IsId p s := by
 constructor
 ·
  intro hc
  refine ⟨h, fun e he i hi => ?_⟩
  rw [← hc]; exact (Qjh h).mpr (.inr ⟨e, he, hi⟩)
 ·
  rintro ⟨_, hi⟩
  apply Nat.eq_of_testBit_eq
  intro i
  rw [Bool.eq_iff_iff, Qjh h]
  constructor
  ·
   rintro (h1 | ⟨e, h1, h2⟩)
   ·
    exact h1
   ·
    exact hi e h1 i h2
  ·
   exact .inl
theorem Qmo {p : List Nat} {s : Nat} (h : s < 2 ^ p.length) : (Qgc p s == s) = Qei p s := by
 rw [Bool.eq_iff_iff, beq_iff_eq, Qhp h, Qe8 h]
end Go.Proofs.YtkgngggppcmpfaaGreat.M
end
