/- Laws about the given program: the law FnRanksMakeRowmotion answers true for every input that its row lets in; no condition is added to the given statement. Contracts of the Go functions that it reaches, and the plain proof over lists. -/
import Derived.Laws.BitsLemmas
import Derived.WalkKit
import Derived.Test.YtkgngggppcmpfaaGreatWFnRanksMakeRowmotion0
import Derived.Test.YtkgngggppcmpfaaGreatKFnRanksMakeRowmotion0
import Derived.Test.YtkgngggppcmpfaaGreatKFnRanksMakeRowmotion1
import Derived.Test.YtkgngggppcmpfaaGreatKFnRanksMakeRowmotion2
import Derived.Test.YtkgngggppcmpfaaGreatKFnRanksMakeRowmotion3
import Derived.Test.YtkgngggppcmpfaaGreatKFnRanksMakeRowmotion4
import Derived.Test.YtkgngggppcmpfaaGreatKFnRanksMakeRowmotion5
import Derived.Test.YtkgngggppcmpfaaGreatKFnRanksMakeRowmotion6
import Derived.Test.YtkgngggppcmpfaaGreatKFnRanksMakeRowmotion7
section
namespace Go.Proofs.YtkgngggppcmpfaaGreat.L
open Go.RowKit Go.Proofs.YtkgngggppcmpfaaGreatW.PrintWords Go.Proofs.YtkgngggppcmpfaaGreatW.PrintLast Go.Proofs.YtkgngggppcmpfaaGreatW.PrintMore Go.Proofs.YtkgngggppcmpfaaGreat.X
attribute [local go_sem] Q2 Q4 Qbb Qbc Qt Qu Q3 Q5
set_option linter.unusedVariables false
set_option linter.unusedSimpArgs false
mutual
def laws_FnRanksMakeRowmotion.j0 : Nat → List Int → Int → Int → Bool → Bool → List Int → Option (Bool)
 |0,_,_,_,_,_,_=>none
 |k+1,x1,x6,x7,x8,x91,x1172000=>if x91=true then (none) else (if x8=true then ((Qd9.f k x1172000 x6).bind fun bt1176=>((Qd2.f k x1172000).bind fun bt1178=>((Qd8.f k x1172000).bind fun bt1182=>(laws_FnRanksMakeRowmotion.l0 k x1 x6 x7 bt1176.1 bt1176.2 bt1178.1 bt1178.2 bt1182.1 bt1182.2 0 bt1178.1 (bt1178.1.length:Int) 0 x1172000)))) else (laws_FnRanksMakeRowmotion.j3 k x1))
def laws_FnRanksMakeRowmotion.j3 : Nat → List Int → Option (Bool)
 |0,_=>none
 |k+1,x1=>(Qcc.f k x1).bind fun bt1193=>((Qc9.f k bt1193.1 bt1193.2.1 bt1193.2.2).bind fun bt1199=>((Qd4.f k bt1193.1 bt1193.2.1 bt1193.2.2).bind fun bt1201=>((Q7.f k x1).bind fun bt1203=>((Qbz.f k bt1203.1 bt1203.2.1 bt1203.2.2).bind fun bt1211=>((Qdq.f k bt1203.1 bt1203.2.1 bt1203.2.2).bind fun bt1213=>((Qdy.f k x1).bind fun t1215=>((Qd2.f k t1215).bind fun bt1219=>((Qeg.f k t1215).bind fun bt1223=>(if (bt1199.2 !=bt1201.2)=true then (laws_FnRanksMakeRowmotion.j4 k x1 true) else (if bt1199.1=bt1201.1 then (if (bt1211.2 !=bt1213.2)=true then (laws_FnRanksMakeRowmotion.j4 k x1 true) else (if bt1211.1=bt1213.1 then (if (bt1219.2 !=bt1223.2)=true then (laws_FnRanksMakeRowmotion.j4 k x1 true) else ((Qcn.f k bt1219.1 bt1223.1).bind fun t1227=>(laws_FnRanksMakeRowmotion.j4 k x1 (!t1227)))) else (laws_FnRanksMakeRowmotion.j4 k x1 true))) else (laws_FnRanksMakeRowmotion.j4 k x1 true)))))))))))
def laws_FnRanksMakeRowmotion.j4 : Nat → List Int → Bool → Option (Bool)
 |0,_,_=>none
 |k+1,x1,x271=>if x271=true then (none) else ((Qdd.f k x1).bind fun bt1228=>((Qdp.f k bt1228.1 bt1228.2).bind fun bt1233=>((Qdz.f k bt1228.1 bt1228.2).bind fun bt1235=>((Qck.f k bt1228.1 bt1228.2).bind fun bt1237=>((Qd3.f k bt1228.1 bt1228.2).bind fun bt1239=>(if (bt1233.2 !=bt1235.2)=true then (laws_FnRanksMakeRowmotion.j5 k x1 bt1228.2 bt1233.1 bt1233.2 true bt1228.1) else (if bt1233.1=bt1235.1 then (if (bt1237.2 !=bt1239.2)=true then (laws_FnRanksMakeRowmotion.j5 k x1 bt1228.2 bt1233.1 bt1233.2 true bt1228.1) else (if bt1237.1=bt1239.1 then (laws_FnRanksMakeRowmotion.j5 k x1 bt1228.2 bt1233.1 bt1233.2 (bt1233.2 !=bt1237.2) bt1228.1) else (laws_FnRanksMakeRowmotion.j5 k x1 bt1228.2 bt1233.1 bt1233.2 true bt1228.1))) else (laws_FnRanksMakeRowmotion.j5 k x1 bt1228.2 bt1233.1 bt1233.2 true bt1228.1))))))))
def laws_FnRanksMakeRowmotion.j5 : Nat → List Int → Int → Int → Bool → Bool → List Int → Option (Bool)
 |0,_,_,_,_,_,_=>none
 |k+1,x1,x46,x47,x48,x323,x1233000=>if x323=true then (none) else (if x48=true then ((Qck.f k x1233000 x47).bind fun bt1241=>(if bt1241.2=true then (if bt1241.1=x46 then (laws_FnRanksMakeRowmotion.j6 k x1) else (none)) else (none))) else (laws_FnRanksMakeRowmotion.j6 k x1))
def laws_FnRanksMakeRowmotion.j6 : Nat → List Int → Option (Bool)
 |0,_=>none
 |k+1,x1=>(Qcy.f k x1).bind fun t1243=>((Qcx.f k t1243).bind fun bt1247=>((Qr.f k t1243).bind fun bt1251=>(if (bt1247.2 !=bt1251.2)=true then (laws_FnRanksMakeRowmotion.j7 k bt1247.1 bt1247.2 true t1243) else ((Qcn.f k bt1247.1 bt1251.1).bind fun t1255=>(laws_FnRanksMakeRowmotion.j7 k bt1247.1 bt1247.2 (!t1255) t1243)))))
def laws_FnRanksMakeRowmotion.j7 : Nat → List Int → Bool → Bool → List Int → Option (Bool)
 |0,_,_,_,_=>none
 |k+1,x58,x59,x358,x1247000=>if x358=true then (none) else (if x59=true then ((Qdm.f k x1247000).bind fun bt1256=>(if bt1256.2=true then ((Qcn.f k bt1256.1 x58).bind fun t1260=>(some t1260)) else (none))) else (some true))
def laws_FnRanksMakeRowmotion.l0 : Nat → List Int → Int → Int → Int → Bool → List Int → Bool → List Int → Bool → Int → List Int → Int → Int → List Int → Option (Bool)
 |0,_,_,_,_,_,_,_,_,_,_,_,_,_,_=>none
 |k+1,x1,x6,x7,x11,x12,x13,x14,x15,x16,x17,x109,x110,x111,x1172000=>if x111<x110 then (if 0≤x111 then (if x111<(x109.length:Int) then ((Qc9.f k x1172000 x6 x111).bind fun bt1187=>((Qc9.f k x1172000 bt1187.1 x111).bind fun bt1189=>(if bt1187.2=true then (if bt1189.2=true then (if bt1189.1=x6 then (if (Go.bits .and .i64 x17 (rd x109 x111))=0 then (laws_FnRanksMakeRowmotion.l0 k x1 x6 x7 x11 x12 x13 x14 x15 x16 (Go.bits .or .i64 x17 (rd x109 x111)) x109 x110 (wrap64 (x111+1)) x1172000) else (none)) else (none)) else (none)) else (none)))) else (none)) else (none)) else (laws_FnRanksMakeRowmotion.l1 k x1 x7 x11 x12 x13 x14 x16 x17 x15 (x15.length:Int) 0 x1172000)
def laws_FnRanksMakeRowmotion.l1 : Nat → List Int → Int → Int → Bool → List Int → Bool → Bool → Int → List Int → Int → Int → List Int → Option (Bool)
 |0,_,_,_,_,_,_,_,_,_,_,_,_=>none
 |k+1,x1,x7,x11,x12,x13,x14,x16,x17,x151,x152,x153,x1172000=>if x153<x152 then (if 0≤x153 then (if x153<(x151.length:Int) then (if 0≤(rd x151 x153) then (if (rd x151 x153)<(x13.length:Int) then (if (Int.tmod (shr .i64 (rd x13 (rd x151 x153)) x153) 2)=1 then (laws_FnRanksMakeRowmotion.l1 k x1 x7 x11 x12 x13 x14 x16 x17 x151 x152 (wrap64 (x153+1)) x1172000) else (none)) else (none)) else (none)) else (none)) else (none)) else (if x12=true then (if x11=x7 then (if x14=true then (if x16=true then (if x17=(wrap64 ((shl .i64 1 (x1172000.length:Int)) - 1)) then (laws_FnRanksMakeRowmotion.j3 k x1) else (none)) else (none)) else (none)) else (none)) else (none))
end
def laws_FnRanksMakeRowmotion.f (k : Nat) (l0 : List Int) (l1 : List Int) : Option (Bool) := (Qfx.f l0 l1).bind fun t1166 => (if t1166 = true then (some true) else ((Qcs.f k l0).bind fun bt1167 => ((Qdw.f k bt1167.1 bt1167.2).bind fun bt1172 => ((Qb3.f k bt1167.1 bt1167.2).bind fun bt1174 => (if (bt1172.2 != bt1174.2) = true then (laws_FnRanksMakeRowmotion.j0 k l1 bt1167.2 bt1172.1 bt1172.2 true bt1167.1) else (laws_FnRanksMakeRowmotion.j0 k l1 bt1167.2 bt1172.1 bt1172.2 (bt1172.1 != bt1174.1) bt1167.1))))))
theorem laws_FnRanksMakeRowmotion.mono_l : ∀ k, (∀ y0 y1 y2 y3 y4 y5, LeO (laws_FnRanksMakeRowmotion.j0 k y0 y1 y2 y3 y4 y5) (laws_FnRanksMakeRowmotion.j0 (k + 1) y0 y1 y2 y3 y4 y5)) ∧ (∀ y0, LeO (laws_FnRanksMakeRowmotion.j3 k y0) (laws_FnRanksMakeRowmotion.j3 (k + 1) y0)) ∧ (∀ y0 y1, LeO (laws_FnRanksMakeRowmotion.j4 k y0 y1) (laws_FnRanksMakeRowmotion.j4 (k + 1) y0 y1)) ∧ (∀ y0 y1 y2 y3 y4 y5, LeO (laws_FnRanksMakeRowmotion.j5 k y0 y1 y2 y3 y4 y5) (laws_FnRanksMakeRowmotion.j5 (k + 1) y0 y1 y2 y3 y4 y5)) ∧ (∀ y0, LeO (laws_FnRanksMakeRowmotion.j6 k y0) (laws_FnRanksMakeRowmotion.j6 (k + 1) y0)) ∧ (∀ y0 y1 y2 y3, LeO (laws_FnRanksMakeRowmotion.j7 k y0 y1 y2 y3) (laws_FnRanksMakeRowmotion.j7 (k + 1) y0 y1 y2 y3)) ∧ (∀ y0 y1 y2 y3 y4 y5 y6 y7 y8 y9 y10 y11 y12 y13, LeO (laws_FnRanksMakeRowmotion.l0 k y0 y1 y2 y3 y4 y5 y6 y7 y8 y9 y10 y11 y12 y13) (laws_FnRanksMakeRowmotion.l0 (k + 1) y0 y1 y2 y3 y4 y5 y6 y7 y8 y9 y10 y11 y12 y13)) ∧ (∀ y0 y1 y2 y3 y4 y5 y6 y7 y8 y9 y10 y11, LeO (laws_FnRanksMakeRowmotion.l1 k y0 y1 y2 y3 y4 y5 y6 y7 y8 y9 y10 y11) (laws_FnRanksMakeRowmotion.l1 (k + 1) y0 y1 y2 y3 y4 y5 y6 y7 y8 y9 y10 y11))
 |0=>⟨fun _ _ _ _ _ _ r h=>by simp [laws_FnRanksMakeRowmotion.j0] at h,fun _ r h=>by simp [laws_FnRanksMakeRowmotion.j3] at h,fun _ _ r h=>by simp [laws_FnRanksMakeRowmotion.j4] at h,fun _ _ _ _ _ _ r h=>by simp [laws_FnRanksMakeRowmotion.j5] at h,fun _ r h=>by simp [laws_FnRanksMakeRowmotion.j6] at h,fun _ _ _ _ r h=>by simp [laws_FnRanksMakeRowmotion.j7] at h,fun _ _ _ _ _ _ _ _ _ _ _ _ _ _ r h=>by simp [laws_FnRanksMakeRowmotion.l0] at h,fun _ _ _ _ _ _ _ _ _ _ _ _ r h=>by simp [laws_FnRanksMakeRowmotion.l1] at h⟩
 |k+1=>by
  obtain ⟨ih0,ih1,ih2,ih3,ih4,ih5,ih6,ih7⟩:=laws_FnRanksMakeRowmotion.mono_l k;refine ⟨?_,?_,?_,?_,?_,?_,?_,?_⟩
  all_goals
   intros
   first|unfold laws_FnRanksMakeRowmotion.j0|unfold laws_FnRanksMakeRowmotion.j3|unfold laws_FnRanksMakeRowmotion.j4|unfold laws_FnRanksMakeRowmotion.j5|unfold laws_FnRanksMakeRowmotion.j6|unfold laws_FnRanksMakeRowmotion.j7|unfold laws_FnRanksMakeRowmotion.l0|unfold laws_FnRanksMakeRowmotion.l1
   repeat' (with_reducible first|apply ih0|apply ih1|apply ih2|apply ih3|apply ih4|apply ih5|apply ih6|apply ih7|apply Qck.mono|apply Qdp.mono|apply Qcx.mono|apply Qd8.mono|apply Qd2.mono|apply Qdw.mono|apply Qd9.mono|apply Qdm.mono|apply Qc9.mono|apply Qbz.mono|apply Qcn.mono|apply Qdd.mono|apply Qcy.mono|apply Qdy.mono|apply Qcs.mono|apply Qcc.mono|apply Q7.mono|apply Qd3.mono|apply Qdz.mono|apply Qr.mono|apply Qeg.mono|apply Qb3.mono|apply Qd4.mono|apply Qdq.mono|exact LeO.refl _|exact LeO.none _|refine LeO.ite ?_ ?_|refine LeO.bind ?_ (fun _=> ?_))
theorem laws_FnRanksMakeRowmotion.mono : ∀ a0 a1 k, LeO (laws_FnRanksMakeRowmotion.f k a0 a1) (laws_FnRanksMakeRowmotion.f (k + 1) a0 a1) := by
 intro a0 a1 k;obtain ⟨ih0,ih1,ih2,ih3,ih4,ih5,ih6,ih7⟩:=laws_FnRanksMakeRowmotion.mono_l k;unfold laws_FnRanksMakeRowmotion.f
 repeat' (with_reducible first|apply ih0|apply ih1|apply ih2|apply ih3|apply ih4|apply ih5|apply ih6|apply ih7|apply Qck.mono|apply Qdp.mono|apply Qcx.mono|apply Qd8.mono|apply Qd2.mono|apply Qdw.mono|apply Qd9.mono|apply Qdm.mono|apply Qc9.mono|apply Qbz.mono|apply Qcn.mono|apply Qdd.mono|apply Qcy.mono|apply Qdy.mono|apply Qcs.mono|apply Qcc.mono|apply Q7.mono|apply Qd3.mono|apply Qdz.mono|apply Qr.mono|apply Qeg.mono|apply Qb3.mono|apply Qd4.mono|apply Qdq.mono|exact LeO.refl _|exact LeO.none _|refine LeO.ite ?_ ?_|refine LeO.bind ?_ (fun _=> ?_))
set_option maxHeartbeats 8000000 in
set_option maxRecDepth 100000 in
theorem laws_FnRanksMakeRowmotion.calls (k : Nat) (A0 : Option Addr) (c0 : Nat) (l0 : List Int) (A1 : Option Addr) (c1 : Nat) (l1 : List Int) (r : Bool) (w : World) (hr0 : Kd.C (Kd.int .u8) w A0 l0.length l0) (hc0 : l0.length ≤ c0) (hr1 : Kd.C (Kd.int .u8) w A1 l1.length l1) (hc1 : l1.length ≤ c1) (h : laws_FnRanksMakeRowmotion.f k l0 l1 = some r) :
 Calls Tryz.prog 6 #[.slice A0 l0.length c0, .slice A1 l1.length c1] w fun e w'=>e= .returned (.bool r)∧Below w.heap.size w w':=by
 have hu26:=Tryz.underlying26;have HR0:=Aside0.mk hr0;have HC0:=Aside0.mk hc0;clear hr0 hc0;have HR1:=Aside0.mk hr1;have HC1:=Aside0.mk hc1;clear hr1 hc1;have HB:=Aside0.mk (Below.refl w.heap.size w);have H:((Qfx.f l0 l1).bind fun t1166=>(if t1166=true then (some true) else ((Qcs.f k l0).bind fun bt1167=>((Qdw.f k bt1167.1 bt1167.2).bind fun bt1172=>((Qb3.f k bt1167.1 bt1167.2).bind fun bt1174=>(if (bt1172.2 !=bt1174.2)=true then (laws_FnRanksMakeRowmotion.j0 k l1 bt1167.2 bt1172.1 bt1172.2 true bt1167.1) else (laws_FnRanksMakeRowmotion.j0 k l1 bt1167.2 bt1172.1 bt1172.2 (bt1172.1 !=bt1174.1) bt1167.1)))))))=some r:=h;clear h;obtain ⟨t1166,A3,H⟩:=bs H;(try dsimp only at H)
 by_cases c4:t1166=true
 ·
  subst c4;rw [if_pos rfl] at H;obtain rfl:=Option.some.inj H;go_enter Tryz.func6,Tryz.ntmps6;go_wp2_with ((with_reducible refine gt ?_);first|(refine gA (some 66) Tryz.func10 #[.slice A0 l0.length c0, .slice A1 l1.length c1] ?_;(with_reducible refine (Qfx.calls _ _ l0 _ _ l1 true _ (uC HR0) HC0.out (uC HR1) HC1.out A3.out).mono ?_);rintro e w' ⟨rfl,⟨nd,rfl⟩⟩;refine ⟨_,rfl,?_⟩))
  go_ret
  exact ⟨by first|rfl|(simp [Qd,Qe] <;>rfl)|(simp [*,Qd,Qe] <;>rfl),uB HB⟩
 ·
  replace c4:=Bool.eq_false_iff.mpr c4;subst c4;rw [if_neg (show ¬ (false=true) by decide)] at H;obtain ⟨⟨t1167,t1170⟩,A5,H⟩:=bs H;(try dsimp only at H)
  obtain ⟨⟨t1172,t1173⟩,A6,H⟩:=bs H;(try dsimp only at H)
  obtain ⟨⟨t1174,t1175⟩,A7,H⟩:=bs H;(try dsimp only at H)
  have HC8:=Aside0.mk H;clear H;go_enter Tryz.func6,Tryz.ntmps6;go_upto_region 6 with ((with_reducible refine gt ?_);first|(refine gA (some 66) Tryz.func10 #[.slice A0 l0.length c0, .slice A1 l1.length c1] ?_;(with_reducible refine (Qfx.calls _ _ l0 _ _ l1 false _ (uC HR0) HC0.out (uC HR1) HC1.out A3.out).mono ?_);rintro e w' ⟨rfl,⟨nd,rfl⟩⟩;refine ⟨_,rfl,?_⟩)|(refine gA (some 69) Tryz.func78 #[.slice A0 l0.length c0] ?_;(with_reducible refine (Qcs.calls k _ _ l0 t1167 t1170 _ (uC HR0) HC0.out A5.out).mono ?_);rintro e w9 ⟨v1168,rfl,ho0,hb⟩;refine ⟨_,rfl,?_⟩;have HO1169:=Aside0.mk (Kd.R_lower ho0 (Qj (uB HB)));replace HB:=Aside0.mk (Qb (uB HB) hb);(try clear hb ho0))|((with_reducible refine Qb9 (N:=5) rfl ?_);(try (refine Qec (by rfl) ?_;dsimp only));refine bE (N:=5) (cs:= #[.slice none 0 0]) (t:=26) ?_;intro gb1171 hg w10 hbox hb;replace HO1169:=Aside0.mk (Kd.R_below (uR HO1169) hb);have BK1171:=Aside0.mk (hbox);have GW1171:=Aside0.mk ((by rw [hg];exact (Qj (uB HB)):w.heap.size≤gb1171));have GE1171:=GW1171;replace HB:=Aside0.mk (Qb (uB HB) hb);clear hb hbox hg;obtain ⟨Ao11,co11,eo11⟩:=Kd.R_slice HO1169.out;subst eo11;have hcz12_0:=bC BK1171;have hfz12_0:=Qf BK1171.out 0)|(refine gA (some 75) Tryz.func79 #[.agg #[.slice Ao11 t1167.length co11], .int .i64 t1170] ?_;(with_reducible refine (Qdw.calls k _ _ t1167 t1170 t1172 t1173 _ ?side1 ?side2 A6.out).mono ?_);(case side1=>refine (Kd.R_reads' (e:=3) (base:=w.heap.size) (ok:=fun k_=>True) (n:=t1167.length) (c:=co11) ?_).2.2;exact (rF HO1169 BK1171 (.slice Ao11 t1167.length co11)));(case side2=>exact (Kd.R_reads' HO1169.out).2.1);rintro e w13 ⟨rfl,hb⟩;refine ⟨_,rfl,?_⟩;replace HO1169:=Aside0.mk (Kd.R_below (rF HO1169 BK1171 (.slice Ao11 t1167.length co11)) hb);replace BK1171:=Aside0.mk (Qc (g:=gb1171) (o:= .cells #[.slice Ao11 t1167.length co11] 26 (0,0)) bP hb);replace HB:=Aside0.mk (Qb (vB HB) hb);(try clear hb);have hcz14_0:=bC BK1171;have hfz14_0:=Qf BK1171.out 0)|(refine gA (some 81) Tryz.func80 #[.agg #[.slice Ao11 t1167.length co11], .int .i64 t1170] ?_;(with_reducible refine (Qb3.calls k _ _ t1167 t1170 t1174 t1175 _ (uE HO1169) ?side2 A7.out).mono ?_);(case side2=>exact (Kd.R_reads' HO1169.out).2.1);rintro e w15 ⟨rfl,hb⟩;refine ⟨_,rfl,?_⟩;replace HO1169:=Aside0.mk (Kd.R_below (uR HO1169) hb);replace BK1171:=Aside0.mk (Qc (uK BK1171) hb);replace HB:=Aside0.mk (Qb (vB HB) hb);(try clear hb)))
  (try simp only [Act.put,List.setIfInBounds_toArray,List.set_cons_zero,List.set_cons_succ])
  go_cut [91] (fun v91 wc=> ∃ (kq:Nat) (x91_7:Bool),v91= .bool x91_7∧Aside0 (laws_FnRanksMakeRowmotion.j0 kq l1 t1170 t1172 t1173 x91_7 t1167=some r)∧Aside0 (kq≤k)∧Aside0 (Kd.R (Kd.int .i64) 3 wc w.heap.size (fun _=>True) (.slice Ao11 t1167.length co11) t1167)∧Aside0 (wc.heap[gb1171]? =some (.cells #[(.slice Ao11 t1167.length co11)] 26 (0,0)))∧Aside0 (Below w.heap.size w wc))
  case first=>as_aux_lemma=>
   have H:=HC8.out;clear HC8
   by_cases c16:(t1173 !=t1175)=true
   ·
    rw [if_pos c16] at H;have c16b0:(t1173 !=t1175)=true:=c16
    (try (have c16b1:decide (t1173=t1175)=false:=by simpa using c16))
    (try (have c16b2:(t1173==t1175)=false:=by simpa using c16))
    (try (have c16b3: ¬ (t1173=t1175):=by simpa using c16))
    clear c16
    (first|rw [c16b0] |(simp only [Qcq,Qd6];rw [c16b0])|skip)
    have H':=Aside0.mk H;clear H;go_wp2
    go_meet
    case rel=>exact ⟨_,(true),(by first|rfl|(simp;done)|(simp [*];done)),H',⟨by first|omega|exact Nat.le_refl _⟩,⟨uR HO1169⟩,⟨uK BK1171⟩,⟨(vB HB)⟩⟩
   ·
    rw [if_neg c16] at H;have c16b0:(t1173 !=t1175)=false:=by simpa using c16
    (try (have c16b1:decide (t1173=t1175)=true:=by simpa using c16))
    (try (have c16b2:(t1173==t1175)=true:=by simpa using c16))
    clear c16
    (first|rw [c16b0] |(simp only [Qcq,Qd6];rw [c16b0])|skip)
    have H':=Aside0.mk H;clear H;go_wp2
    go_meet
    case rel=>exact ⟨_,((t1172 !=t1174)),(by first|rfl|(simp;done)|(simp [*];done)),H',⟨by first|omega|exact Nat.le_refl _⟩,⟨uR HO1169⟩,⟨uK BK1171⟩,⟨(vB HB)⟩⟩
  case rest=>as_aux_lemma=>
   clear HC8
   try clear hcz12_0 hcz14_0 hfz12_0 hfz14_0
   obtain ⟨kq,x91_7,rfl,HA,HJ7,HO_1172000,BK1171,HB⟩:=hcut;cases kq with
   |zero=>exact absurd HA.out (by simp [laws_FnRanksMakeRowmotion.j0])
   |succ kj7=>
    have H:=HA.out;clear HA;simp only [laws_FnRanksMakeRowmotion.j0] at H
    by_cases c17:x91_7=true
    ·
     subst c17;rw [if_pos rfl] at H;exact absurd H (by simp)
    ·
     replace c17:=Bool.eq_false_iff.mpr c17;subst c17;rw [if_neg (show ¬ (false=true) by decide)] at H;have HC18:=Aside0.mk H;clear H
     go_upto_if 92 with (fail)
     go_cut [] (fun wc=> ∃ (kq:Nat),Aside0 (laws_FnRanksMakeRowmotion.j3 kq l1=some r)∧Aside0 (kq≤kj7)∧Aside0 (Kd.R (Kd.int .i64) 3 wc w.heap.size (fun _=>True) (.slice Ao11 t1167.length co11) t1167)∧Aside0 (wc.heap[gb1171]? =some (.cells #[(.slice Ao11 t1167.length co11)] 26 (0,0)))∧Aside0 (Below w.heap.size w wc))
     case first=>as_aux_lemma=>
      have H:=HC18.out;clear HC18
      by_cases c19:t1173=true
      ·
       subst c19;rw [if_pos rfl] at H;obtain ⟨⟨t1176,t1177⟩,A20,H⟩:=bs H;(try dsimp only at H)
       obtain ⟨⟨t1178,t1181⟩,A21,H⟩:=bs H;(try dsimp only at H)
       obtain ⟨⟨t1182,t1185⟩,A22,H⟩:=bs H;(try dsimp only at H)
       have H':=Aside0.mk H;clear H;have hcz23_0:=bC BK1171;have hfz23_0:=Qf BK1171.out 0;go_wp2_with ((with_reducible refine gt ?_);first|(refine gA (some 96) Tryz.func16 #[.agg #[.slice Ao11 t1167.length co11], .int .i64 t1170] ?_;(with_reducible refine (Qd9.calls kj7 _ _ t1167 t1170 t1176 t1177 _ (uE HO_1172000) ?side2 A20.out).mono ?_);(case side2=>exact (Kd.R_reads' HO_1172000.out).2.1);rintro e w24 ⟨rfl,hb⟩;refine ⟨_,rfl,?_⟩;replace HO_1172000:=Aside0.mk (Kd.R_below (uR HO_1172000) hb);replace BK1171:=Aside0.mk (Qc (uK BK1171) hb);replace HB:=Aside0.mk (Qb (vB HB) hb);(try clear hb);have hcz25_0:=bC BK1171;have hfz25_0:=Qf BK1171.out 0)|(refine gA (some 101) Tryz.func17 #[.agg #[.slice Ao11 t1167.length co11]] ?_;(with_reducible refine (Qd2.calls kj7 _ _ t1167 t1178 t1181 _ (uE HO_1172000) ?side2 A21.out).mono ?_);(case side2=>exact (Kd.R_reads' HO_1172000.out).2.1);rintro e w26 ⟨v1179,rfl,ho0,hb⟩;refine ⟨_,rfl,?_⟩;have HO1180:=Aside0.mk (Kd.R_lower (Kd.R_new' ho0 (Kd.R_lt (uR HO_1172000))) (Qj (vB HB)));replace HO_1172000:=Aside0.mk (Kd.R_elder' (uR HO_1172000) (Kd.R_base ho0) hb);replace BK1171:=Aside0.mk (Qc (uK BK1171) hb);replace HB:=Aside0.mk (Qb (vB HB) hb);(try clear hb ho0);have hcz27_0:=bC BK1171;have hfz27_0:=Qf BK1171.out 0)|(refine gA (some 106) Tryz.func81 #[.agg #[.slice Ao11 t1167.length co11]] ?_;(with_reducible refine (Qd8.calls kj7 _ _ t1167 t1182 t1185 _ (uE HO_1172000) ?side2 A22.out).mono ?_);(case side2=>exact (Kd.R_reads' HO_1172000.out).2.1);rintro e w28 ⟨v1183,rfl,ho0,hb⟩;refine ⟨_,rfl,?_⟩;have HO1184:=Aside0.mk (Kd.R_lower (Kd.R_new' (Kd.R_new' ho0 (Kd.R_lt (uR HO_1172000))) (Kd.R_lt (uR HO1180))) (Qj (vB HB)));replace HO_1172000:=Aside0.mk (Kd.R_elder' (uR HO_1172000) (Kd.R_base ho0) hb);replace HO1180:=Aside0.mk (Kd.R_elder' (uR HO1180) (Kd.R_base ho0) hb);replace BK1171:=Aside0.mk (Qc (uK BK1171) hb);replace HB:=Aside0.mk (Qb (vB HB) hb);(try clear hb ho0);obtain ⟨Ao29,co29,eo29⟩:=Kd.R_slice HO1180.out;subst eo29))
       go_loopg [17,111] kj7 (fun kq v17 v111 w'=> ∃ (x17_2:Int) (x111_2:Int),v17= .int .i64 x17_2∧v111= .int .i64 x111_2∧Aside0 (laws_FnRanksMakeRowmotion.l0 kq l1 t1170 t1172 t1176 t1177 t1178 t1181 t1182 t1185 x17_2 t1178 (t1178.length:Int) x111_2 t1167=some r)∧Aside0 (kq≤kj7)∧Aside0 (Kd.R (Kd.int .i64) 3 w' w.heap.size (fun k_=>some k_≠(v1183:Value).ownBlock∧some k_≠((.slice Ao11 t1167.length co11):Value).ownBlock) (.slice Ao29 t1178.length co29) t1178)∧Aside0 (Kd.R (Kd.int .i64) 3 w' w.heap.size (fun k_=>some k_≠((.slice Ao29 t1178.length co29):Value).ownBlock∧some k_≠((.slice Ao29 t1178.length co29):Value).ownBlock∧some k_≠((.slice Ao11 t1167.length co11):Value).ownBlock) v1183 t1182)∧Aside0 (Kd.R (Kd.int .i64) 3 w' w.heap.size (fun k_=>some k_≠(v1183:Value).ownBlock∧some k_≠((.slice Ao11 t1167.length co11):Value).ownBlock) (.slice Ao29 t1178.length co29) t1178)∧Aside0 (Kd.R (Kd.int .i64) 3 w' w.heap.size (fun k_=>some k_≠((.slice Ao29 t1178.length co29):Value).ownBlock∧some k_≠(v1183:Value).ownBlock∧some k_≠((.slice Ao29 t1178.length co29):Value).ownBlock) (.slice Ao11 t1167.length co11) t1167)∧Aside0 (w'.heap[gb1171]? =some (.cells #[(.slice Ao11 t1167.length co11)] 26 (0,0)))∧Aside0 (Below w.heap.size w w'))
       case atStart=>exact ⟨(0),(0),(by first|rfl|(simp;done)|(simp [*];done)),(by first|rfl|(simp;done)|(simp [*];done)),H',⟨Nat.le_refl _⟩,⟨Kd.R_mono (uR HO1180) (fun _ hk=>⟨hk.2,hk.1.2⟩)⟩,⟨Kd.R_mono (uR HO1184) (fun _ hk=>⟨hk.2,⟨hk.2,hk.1.2⟩⟩)⟩,⟨Kd.R_mono (uR HO1180) (fun _ hk=>⟨hk.2,hk.1.2⟩)⟩,⟨Kd.R_mono (uR HO_1172000) (fun _ hk=>⟨hk.1.2,⟨hk.2,hk.1.2⟩⟩)⟩,⟨uK BK1171⟩,⟨(vB HB)⟩⟩
       case round=>as_aux_lemma=>
        clear H'
        try clear hcz23_0 hcz25_0 hcz27_0 hfz23_0 hfz25_0 hfz27_0
        obtain ⟨x17_2,x111_2,rfl,rfl,HA,HK2,HO_13,HO_15,HO_109,HO_1172000,BK1171,HB⟩:=hrel;cases gk with
        |zero=>exact absurd HA.out (by simp [laws_FnRanksMakeRowmotion.l0])
        |succ k2=>
         have H:=HA.out;clear HA;simp only [laws_FnRanksMakeRowmotion.l0] at H
         by_cases c30:x111_2<(t1178.length:Int)
         ·
          rw [if_pos c30] at H;have c30b0:=decide_eq_true c30;clear c30
          (first|rw [c30b0] |(simp only [Qcq,Qd6];rw [c30b0])|skip)
          by_cases c31:0≤x111_2
          ·
           as_aux_lemma=>
           rw [if_pos c31] at H;have c31b0:=decide_eq_true c31;clear c31
           by_cases c32:x111_2<(t1178.length:Int)
           ·
            rw [if_pos c32] at H;have c32b0:=decide_eq_true c32;clear c32;obtain ⟨⟨t1187,t1188⟩,A33,H⟩:=bs H;(try dsimp only at H)
            obtain ⟨⟨t1189,t1190⟩,A34,H⟩:=bs H;(try dsimp only at H)
            by_cases c35:t1188=true
            ·
             subst c35;rw [if_pos rfl] at H
             by_cases c36:t1190=true
             ·
              subst c36;rw [if_pos rfl] at H
              by_cases c37:t1189=t1170
              ·
               rw [if_pos c37] at H;have c37b0:(t1189==t1170)=true:=beq_iff_eq.mpr c37;have c37b1:(t1189 !=t1170)=false:=bne_eq_false_iff_eq.mpr c37;clear c37
               by_cases c38:(Go.bits .and .i64 x17_2 (rd t1178 x111_2))=0
               ·
                as_aux_lemma=>
                rw [if_pos c38] at H;have c38b0:((Go.bits .and .i64 x17_2 (rd t1178 x111_2))==0)=true:=beq_iff_eq.mpr c38;have c38b1:((Go.bits .and .i64 x17_2 (rd t1178 x111_2)) !=0)=false:=bne_eq_false_iff_eq.mpr c38;clear c38;have H':=Aside0.mk H;clear H;have p1186:0≤(x111_2:Int):=of_decide_eq_true (by first|(with_reducible assumption)|assumption);have q1186:x111_2<(t1178.length:Int):=of_decide_eq_true (by first|(with_reducible assumption)|assumption);obtain ⟨ad1186,e1186,hx1186_0⟩:=Kd.at_int (Kd.R_reads' HO_109.out).2.2 x111_2 p1186 q1186;cases e1186;replace p1186:=eq_true p1186;replace q1186:=eq_true q1186;have hcz39_0:=bC BK1171;have hfz39_0:=Qf BK1171.out 0;go_wp2_with ((with_reducible refine gt ?_);first|(refine gA (some 120) Tryz.func82 #[.agg #[.slice Ao11 t1167.length co11], .int .i64 t1170, .int .i64 x111_2] ?_;(with_reducible refine (Qc9.calls k2 _ _ t1167 t1170 x111_2 t1187 true _ (uE HO_1172000) ?side2 A33.out).mono ?_);(case side2=>exact (Kd.R_reads' HO_1172000.out).2.1);rintro e w40 ⟨rfl,hb⟩;refine ⟨_,rfl,?_⟩;replace HO_13:=Aside0.mk (Kd.R_below (uR HO_13) hb);replace HO_15:=Aside0.mk (Kd.R_below (uR HO_15) hb);replace HO_109:=Aside0.mk (Kd.R_below (uR HO_109) hb);replace HO_1172000:=Aside0.mk (Kd.R_below (uR HO_1172000) hb);replace BK1171:=Aside0.mk (Qc (uK BK1171) hb);replace HB:=Aside0.mk (Qb (vB HB) hb);(try clear hb);have hcz41_0:=bC BK1171;have hfz41_0:=Qf BK1171.out 0)|(refine gA (some 127) Tryz.func82 #[.agg #[.slice Ao11 t1167.length co11], .int .i64 t1187, .int .i64 x111_2] ?_;(with_reducible refine (Qc9.calls k2 _ _ t1167 t1187 x111_2 t1189 true _ (uE HO_1172000) ?side2 A34.out).mono ?_);(case side2=>exact (Kd.R_reads' HO_1172000.out).2.1);rintro e w42 ⟨rfl,hb⟩;refine ⟨_,rfl,?_⟩;replace HO_13:=Aside0.mk (Kd.R_below (uR HO_13) hb);replace HO_15:=Aside0.mk (Kd.R_below (uR HO_15) hb);replace HO_109:=Aside0.mk (Kd.R_below (uR HO_109) hb);replace HO_1172000:=Aside0.mk (Kd.R_below (uR HO_1172000) hb);replace BK1171:=Aside0.mk (Qc (uK BK1171) hb);replace HB:=Aside0.mk (Qb (vB HB) hb);(try clear hb)));go_roundg k2
                case measure=>have:=HJ7.out;have:=HK2.out;omega
                case rel=>exact ⟨(Go.bits .or .i64 x17_2 (rd t1178 x111_2)),(wrap64 (x111_2+1)),(by first|rfl|(simp;done)|(simp [*];done)),(by first|rfl|(simp;done)|(simp [*];done)),H',⟨by have:=HJ7.out;have:=HK2.out;omega⟩,⟨uR HO_13⟩,⟨uR HO_15⟩,⟨uR HO_109⟩,⟨uR HO_1172000⟩,⟨uK BK1171⟩,⟨(vB HB)⟩⟩
               ·
                rw [if_neg c38] at H;exact absurd H (by simp)
              ·
               rw [if_neg c37] at H;exact absurd H (by simp)
             ·
              replace c36:=Bool.eq_false_iff.mpr c36;subst c36;rw [if_neg (show ¬ (false=true) by decide)] at H;exact absurd H (by simp)
            ·
             replace c35:=Bool.eq_false_iff.mpr c35;subst c35;rw [if_neg (show ¬ (false=true) by decide)] at H;exact absurd H (by simp)
           ·
            rw [if_neg c32] at H;exact absurd H (by simp)
          ·
           rw [if_neg c31] at H;exact absurd H (by simp)
         ·
          rw [if_neg c30] at H;have c30b0:=decide_eq_false c30;clear c30
          (first|rw [c30b0] |(simp only [Qcq,Qd6];rw [c30b0])|skip)
          have H':=Aside0.mk H;clear H;obtain ⟨Ao43,co43,eo43⟩:=Kd.R_slice HO_15.out;subst eo43;go_wp2
          go_loopg [153] k2 (fun kq v153 w'=> ∃ (x153_3:Int),v153= .int .i64 x153_3∧Aside0 (laws_FnRanksMakeRowmotion.l1 kq l1 t1172 t1176 t1177 t1178 t1181 t1185 x17_2 t1182 (t1182.length:Int) x153_3 t1167=some r)∧Aside0 (kq≤k2)∧Aside0 (Kd.R (Kd.int .i64) 3 w' w.heap.size (fun k_=>some k_≠((.slice Ao43 t1182.length co43):Value).ownBlock∧some k_≠((.slice Ao11 t1167.length co11):Value).ownBlock) (.slice Ao29 t1178.length co29) t1178)∧Aside0 (Kd.R (Kd.int .i64) 3 w' w.heap.size (fun k_=>some k_≠((.slice Ao29 t1178.length co29):Value).ownBlock∧some k_≠((.slice Ao11 t1167.length co11):Value).ownBlock) (.slice Ao43 t1182.length co43) t1182)∧Aside0 (Kd.R (Kd.int .i64) 3 w' w.heap.size (fun k_=>some k_≠((.slice Ao29 t1178.length co29):Value).ownBlock∧some k_≠((.slice Ao43 t1182.length co43):Value).ownBlock) (.slice Ao11 t1167.length co11) t1167)∧Aside0 (w'.heap[gb1171]? =some (.cells #[(.slice Ao11 t1167.length co11)] 26 (0,0)))∧Aside0 (Below w.heap.size w w'))
          case atStart=>exact ⟨(0),(by first|rfl|(simp;done)|(simp [*];done)),H',⟨Nat.le_refl _⟩,⟨uR HO_13⟩,⟨Kd.R_mono (uR HO_15) (fun _ hk=>⟨hk.1,hk.2.2⟩)⟩,⟨Kd.R_mono (uR HO_1172000) (fun _ hk=>⟨hk.1,hk.2.1⟩)⟩,⟨uK BK1171⟩,⟨(vB HB)⟩⟩
          case round=>as_aux_lemma=>
           clear H'
           try clear c30b0
           obtain ⟨x153_3,rfl,HA,HK3,HO_13,HO_151,HO_1172000,BK1171,HB⟩:=hrel;cases gk with
           |zero=>exact absurd HA.out (by simp [laws_FnRanksMakeRowmotion.l1])
           |succ k3=>
            have H:=HA.out;clear HA;simp only [laws_FnRanksMakeRowmotion.l1] at H
            by_cases c44:x153_3<(t1182.length:Int)
            ·
             rw [if_pos c44] at H;have c44b0:=decide_eq_true c44;clear c44
             by_cases c45:0≤x153_3
             ·
              rw [if_pos c45] at H;have c45b0:=decide_eq_true c45;clear c45
              by_cases c46:x153_3<(t1182.length:Int)
              ·
               rw [if_pos c46] at H;have c46b0:=decide_eq_true c46;clear c46
               by_cases c47:0≤(rd t1182 x153_3)
               ·
                as_aux_lemma=>
                rw [if_pos c47] at H;have c47b0:=decide_eq_true c47;clear c47
                by_cases c48:(rd t1182 x153_3)<(t1178.length:Int)
                ·
                 rw [if_pos c48] at H;have c48b0:=decide_eq_true c48;clear c48;have c49b0:=eq_true (of_decide_eq_true (by first|(with_reducible assumption)|assumption):0≤x153_3);obtain ⟨ji50,hji50⟩: ∃ j_:Int,(shr .i64 (rd t1178 (rd t1182 x153_3)) x153_3)=j_:=⟨_,rfl⟩
                 replace H:(if (Int.tmod (ji50) 2)=1 then (laws_FnRanksMakeRowmotion.l1 k3 l1 t1172 t1176 t1177 t1178 t1181 t1185 x17_2 t1182 (t1182.length:Int) (wrap64 (x153_3+1)) t1167) else (none))=some r:=by first|(rw [hji50] at H;exact H)|(simp only [hji50] at H ⊢;exact H)
                 have hji50_:((rd t1178 (rd t1182 x153_3)) / 2 ^ min x153_3.toNat 64)=ji50:=hji50;have hji50z:x153_3≤64→((rd t1178 (rd t1182 x153_3)) / 2 ^ x153_3.toNat)=ji50:=Qh7 hji50
                 by_cases c51:(Int.tmod (ji50) 2)=1
                 ·
                  rw [if_pos c51] at H;have c51b0:((Int.tmod (ji50) 2)==1)=true:=beq_iff_eq.mpr c51;have c51b1:((Int.tmod (ji50) 2) !=1)=false:=bne_eq_false_iff_eq.mpr c51;clear c51;have H':=Aside0.mk H;clear H;have p1191:0≤(x153_3:Int):=of_decide_eq_true (by first|(with_reducible assumption)|assumption);have q1191:x153_3<(t1182.length:Int):=of_decide_eq_true (by first|(with_reducible assumption)|assumption);obtain ⟨ad1191,e1191,hx1191_0⟩:=Kd.at_int (Kd.R_reads' HO_151.out).2.2 x153_3 p1191 q1191;cases e1191;replace p1191:=eq_true p1191;replace q1191:=eq_true q1191;have p1192:0≤((rd t1182 x153_3):Int):=of_decide_eq_true (by first|(with_reducible assumption)|assumption);have q1192:(rd t1182 x153_3)<(t1178.length:Int):=of_decide_eq_true (by first|(with_reducible assumption)|assumption);obtain ⟨ad1192,e1192,hx1192_0⟩:=Kd.at_int (Kd.R_reads' HO_13.out).2.2 (rd t1182 x153_3) p1192 q1192;cases e1192;replace p1192:=eq_true p1192;replace q1192:=eq_true q1192;go_wp2;go_roundg k3
                  case measure=>have:=HJ7.out;have:=HK2.out;have:=HK3.out;omega
                  case rel=>exact ⟨(wrap64 (x153_3+1)),(by first|rfl|(simp;done)|(simp [*];done)),H',⟨by have:=HJ7.out;have:=HK2.out;have:=HK3.out;omega⟩,⟨uR HO_13⟩,⟨uR HO_151⟩,⟨uR HO_1172000⟩,⟨uK BK1171⟩,⟨(vB HB)⟩⟩
                 ·
                  rw [if_neg c51] at H;exact absurd H (by simp)
                ·
                 rw [if_neg c48] at H;exact absurd H (by simp)
               ·
                rw [if_neg c47] at H;exact absurd H (by simp)
              ·
               rw [if_neg c46] at H;exact absurd H (by simp)
             ·
              rw [if_neg c45] at H;exact absurd H (by simp)
            ·
             rw [if_neg c44] at H;have c44b0:=decide_eq_false c44;clear c44
             by_cases c52:t1177=true
             ·
              subst c52;rw [if_pos rfl] at H
              by_cases c53:t1176=t1172
              ·
               rw [if_pos c53] at H;have c53b0:(t1176==t1172)=true:=beq_iff_eq.mpr c53;have c53b1:(t1176 !=t1172)=false:=bne_eq_false_iff_eq.mpr c53;clear c53
               by_cases c54:t1181=true
               ·
                as_aux_lemma=>
                subst c54;rw [if_pos rfl] at H
                by_cases c55:t1185=true
                ·
                 subst c55;rw [if_pos rfl] at H;obtain ⟨ji56,hji56⟩: ∃ j_:Int,(shl .i64 1 (t1167.length:Int))=j_:=⟨_,rfl⟩
                 replace H:(if x17_2=(wrap64 ((ji56) - 1)) then (laws_FnRanksMakeRowmotion.j3 k3 l1) else (none))=some r:=by first|(rw [hji56] at H;exact H)|(simp only [hji56] at H ⊢;exact H)
                 have hji56_:(IntKind.i64.wrap (1*2 ^ min (t1167.length:Int).toNat 64))=ji56:=hji56;have hji56z:(t1167.length:Int)≤64→(IntKind.i64.wrap (1*2 ^ (t1167.length:Int).toNat))=ji56:=Qef hji56;have hji56p:(IntKind.i64.wrap (1*2 ^ min t1167.length 64))=ji56:=hji56_;have hji56q:(t1167.length:Int)≤64→(IntKind.i64.wrap (1*2 ^ t1167.length))=ji56:=hji56z;have hji56r:(IntKind.i64.wrap (2 ^ min t1167.length 64))=ji56:=by have h_:=hji56p;rw [Int.one_mul] at h_;exact h_
                 have hji56s:(t1167.length:Int)≤64→(IntKind.i64.wrap (2 ^ t1167.length))=ji56:=fun hle_=>by have h_:=hji56q hle_;rw [Int.one_mul] at h_;exact h_
                 have hji56u:(IntKind.i64.wrap (2 ^ min (t1167.length:Int).toNat 64))=ji56:=by have h_:=hji56_;rw [Int.one_mul] at h_;exact h_
                 have hji56v:(t1167.length:Int)≤64→(IntKind.i64.wrap (2 ^ (t1167.length:Int).toNat))=ji56:=fun hle_=>by have h_:=hji56z hle_;rw [Int.one_mul] at h_;exact h_
                 have hji56y:(wrap64 (1*2 ^ min (t1167.length:Int).toNat 64))=ji56:=(Qcq _).symm.trans hji56_;have hji56x:(t1167.length:Int)≤64→(wrap64 (1*2 ^ (t1167.length:Int).toNat))=ji56:=fun h_=>(Qcq _).symm.trans (hji56z h_)
                 by_cases c57:x17_2=(wrap64 ((ji56) - 1))
                 ·
                  rw [if_pos c57] at H;have c57b0:(x17_2==(wrap64 ((ji56) - 1)))=true:=beq_iff_eq.mpr c57;have c57b1:(x17_2 !=(wrap64 ((ji56) - 1)))=false:=bne_eq_false_iff_eq.mpr c57;clear c57;have H':=Aside0.mk H;clear H;have hcz58_0:=bC BK1171;have hfz58_0:=Qf BK1171.out 0;go_wp2
                  go_meet
                  case rel=>exact ⟨_,H',⟨by have:=HJ7.out;have:=HK2.out;have:=HK3.out;first|omega|exact Nat.le_refl _⟩,⟨Kd.R_mono (uR HO_1172000) (fun _ hk=>trivial)⟩,⟨uK BK1171⟩,⟨(vB HB)⟩⟩
                 ·
                  rw [if_neg c57] at H;exact absurd H (by simp)
                ·
                 replace c55:=Bool.eq_false_iff.mpr c55;subst c55;rw [if_neg (show ¬ (false=true) by decide)] at H;exact absurd H (by simp)
               ·
                replace c54:=Bool.eq_false_iff.mpr c54;subst c54;rw [if_neg (show ¬ (false=true) by decide)] at H;exact absurd H (by simp)
              ·
               rw [if_neg c53] at H;exact absurd H (by simp)
             ·
              replace c52:=Bool.eq_false_iff.mpr c52;subst c52;rw [if_neg (show ¬ (false=true) by decide)] at H;exact absurd H (by simp)
      ·
       replace c19:=Bool.eq_false_iff.mpr c19;subst c19;rw [if_neg (show ¬ (false=true) by decide)] at H;have H':=Aside0.mk H;clear H;go_wp2
       go_meet
       case rel=>exact ⟨_,H',⟨by have:=HJ7.out;first|omega|exact Nat.le_refl _⟩,⟨uR HO_1172000⟩,⟨uK BK1171⟩,⟨(vB HB)⟩⟩
     case rest=>as_aux_lemma=>
      clear HC18
      skip
      obtain ⟨kq,HA,HJ17,HO_1172000,BK1171,HB⟩:=hcut;cases kq with
      |zero=>exact absurd HA.out (by simp [laws_FnRanksMakeRowmotion.j3])
      |succ kj17=>
       have H:=HA.out;clear HA;simp only [laws_FnRanksMakeRowmotion.j3] at H;obtain ⟨⟨t1193,t1196,t1197⟩,A59,H⟩:=bs H;(try dsimp only at H)
       obtain ⟨⟨t1199,t1200⟩,A60,H⟩:=bs H;(try dsimp only at H)
       obtain ⟨⟨t1201,t1202⟩,A61,H⟩:=bs H;(try dsimp only at H)
       obtain ⟨⟨t1203,t1206,t1207⟩,A62,H⟩:=bs H;(try dsimp only at H)
       obtain ⟨⟨t1211,t1212⟩,A63,H⟩:=bs H;(try dsimp only at H)
       obtain ⟨⟨t1213,t1214⟩,A64,H⟩:=bs H;(try dsimp only at H)
       obtain ⟨t1215,A65,H⟩:=bs H;(try dsimp only at H)
       obtain ⟨⟨t1219,t1222⟩,A66,H⟩:=bs H;(try dsimp only at H)
       obtain ⟨⟨t1223,t1226⟩,A67,H⟩:=bs H;(try dsimp only at H)
       have HC68:=Aside0.mk H;clear H;go_upto_region 39 with ((with_reducible refine gt ?_);first|(refine gA (some 193) Tryz.func83 #[.slice A1 l1.length c1] ?_;(with_reducible refine (Qcc.calls kj17 _ _ l1 t1193 t1196 t1197 _ (uD HR1 HB) HC1.out A59.out).mono ?_);rintro e w69 ⟨v1194,rfl,ho0,hb⟩;refine ⟨_,rfl,?_⟩;have HO1195:=Aside0.mk (Kd.R_lower (Kd.R_new' ho0 (Kd.R_lt (uR HO_1172000))) (Qj (vB HB)));replace HO_1172000:=Aside0.mk (Kd.R_elder' (uR HO_1172000) (Kd.R_base ho0) hb);replace BK1171:=Aside0.mk (Qc (uK BK1171) hb);replace HB:=Aside0.mk (Qb (vB HB) hb);(try clear hb ho0))|((with_reducible refine Qb9 (N:=26) rfl ?_);(try (refine Qec (by rfl) ?_;dsimp only));refine bE (N:=26) (cs:= #[.slice none 0 0]) (t:=26) ?_;intro gb1198 hg w70 hbox hb;replace HO_1172000:=Aside0.mk (Kd.R_below (uR HO_1172000) hb);replace HO1195:=Aside0.mk (Kd.R_below (uR HO1195) hb);have BK1198:=Aside0.mk (hbox);have GW1198:=Aside0.mk ((by rw [hg];exact (Qj (vB HB)):w.heap.size≤gb1198));have GE1198:=GW1198;replace HB:=Aside0.mk (Qb (vB HB) hb);have NB1171_1198:=Aside0.mk ((by rw [hg];exact Nat.ne_of_lt (Qb6 (uK BK1171)):gb1171≠gb1198));have NB1198_1171:=Aside0.mk ((by rw [hg];exact Nat.ne_of_gt (Qb6 (uK BK1171)):gb1198≠gb1171));replace BK1171:=Aside0.mk (Qc (uK BK1171) hb);clear hb hbox hg;obtain ⟨Ao71,co71,eo71⟩:=Kd.R_slice HO1195.out;subst eo71;have hnb72:=NB1198_1171.out;have hnc72:=NB1171_1198.out;have hcz73_0:=bC BK1198;have hfz73_0:=Qf BK1198.out 0)|(refine gA (some 201) Tryz.func82 #[.agg #[.slice Ao71 t1193.length co71], .int .i64 t1196, .int .i64 t1197] ?_;(with_reducible refine (Qc9.calls kj17 _ _ t1193 t1196 t1197 t1199 t1200 _ ?side1 ?side2 A60.out).mono ?_);(case side1=>refine (Kd.R_reads' (e:=3) (base:=w.heap.size) (ok:=fun k_=>(True∧some k_≠(.slice Ao11 t1167.length co11:Value).ownBlock)) (n:=t1193.length) (c:=co71) ?_).2.2;exact (rF HO1195 BK1198 (.slice Ao71 t1193.length co71)));(case side2=>exact (Kd.R_reads' HO1195.out).2.1);rintro e w74 ⟨rfl,hb⟩;refine ⟨_,rfl,?_⟩;replace HO_1172000:=Aside0.mk (Kd.R_below (rF HO_1172000 BK1198 (.slice Ao71 t1193.length co71)) hb);replace HO1195:=Aside0.mk (Kd.R_below (rF HO1195 BK1198 (.slice Ao71 t1193.length co71)) hb);replace BK1171:=Aside0.mk (Qc (g:=gb1171) (o:= .cells #[.slice Ao11 t1167.length co11] 26 (0,0)) kF hb);replace BK1198:=Aside0.mk (Qc (g:=gb1198) (o:= .cells #[.slice Ao71 t1193.length co71] 26 (0,0)) bP hb);replace HB:=Aside0.mk (Qb (vB HB) hb);(try clear hb);have hcz75_0:=bC BK1198;have hfz75_0:=Qf BK1198.out 0)|(refine gA (some 208) Tryz.func84 #[.agg #[.slice Ao71 t1193.length co71], .int .i64 t1196, .int .i64 t1197] ?_;(with_reducible refine (Qd4.calls kj17 _ _ t1193 t1196 t1197 t1201 t1202 _ (uE HO1195) ?side2 A61.out).mono ?_);(case side2=>exact (Kd.R_reads' HO1195.out).2.1);rintro e w76 ⟨rfl,hb⟩;refine ⟨_,rfl,?_⟩;replace HO_1172000:=Aside0.mk (Kd.R_below (uR HO_1172000) hb);replace HO1195:=Aside0.mk (Kd.R_below (uR HO1195) hb);replace BK1171:=Aside0.mk (Qc (uK BK1171) hb);replace BK1198:=Aside0.mk (Qc (uK BK1198) hb);replace HB:=Aside0.mk (Qb (vB HB) hb);(try clear hb))|(refine gA (some 213) Tryz.func85 #[.slice A1 l1.length c1] ?_;(with_reducible refine (Q7.calls kj17 _ _ l1 t1203 t1206 t1207 _ (uD HR1 HB) HC1.out A62.out).mono ?_);rintro e w77 ⟨v1204,v1208,rfl,ho0,ho1,hb⟩;refine ⟨_,rfl,?_⟩;have HO1205:=Aside0.mk (Kd.R_lower (Kd.R_new' (Kd.R_new' ho0 (Kd.R_lt (uR HO_1172000))) (Kd.R_lt (uR HO1195))) (Qj (vB HB)));have HO1209:=Aside0.mk (Kd.R_lower (Kd.R_new' (Kd.R_new' ho1 (Kd.R_lt (uR HO_1172000))) (Kd.R_lt (uR HO1195))) (Qj (vB HB)));replace HO_1172000:=Aside0.mk (Kd.R_mono (Kd.R_told (Kd.R_told (Kd.R_old (uR HO_1172000) hb) (Kd.R_base ho0)) (Kd.R_base ho1)) (fun _ h_=>h_.1));replace HO1195:=Aside0.mk (Kd.R_mono (Kd.R_told (Kd.R_told (Kd.R_old (uR HO1195) hb) (Kd.R_base ho0)) (Kd.R_base ho1)) (fun _ h_=>h_.1));replace BK1171:=Aside0.mk (Qc (uK BK1171) hb);replace BK1198:=Aside0.mk (Qc (uK BK1198) hb);replace HB:=Aside0.mk (Qb (vB HB) hb);(try clear hb ho0 ho1))|((with_reducible refine Qb9 (N:=33) rfl ?_);(try (refine Qec (by rfl) ?_;dsimp only));refine bE (N:=33) (cs:= #[.slice none 0 0]) (t:=26) ?_;intro gb1210 hg w78 hbox hb;replace HO_1172000:=Aside0.mk (Kd.R_below (uR HO_1172000) hb);replace HO1195:=Aside0.mk (Kd.R_below (uR HO1195) hb);replace HO1205:=Aside0.mk (Kd.R_below (uR HO1205) hb);replace HO1209:=Aside0.mk (Kd.R_below (uR HO1209) hb);have BK1210:=Aside0.mk (hbox);have GW1210:=Aside0.mk ((by rw [hg];exact (Qj (vB HB)):w.heap.size≤gb1210));have GE1210:=GW1210;replace HB:=Aside0.mk (Qb (vB HB) hb);have NB1171_1210:=Aside0.mk ((by rw [hg];exact Nat.ne_of_lt (Qb6 (uK BK1171)):gb1171≠gb1210));have NB1210_1171:=Aside0.mk ((by rw [hg];exact Nat.ne_of_gt (Qb6 (uK BK1171)):gb1210≠gb1171));replace BK1171:=Aside0.mk (Qc (uK BK1171) hb);have NB1198_1210:=Aside0.mk ((by rw [hg];exact Nat.ne_of_lt (Qb6 (uK BK1198)):gb1198≠gb1210));have NB1210_1198:=Aside0.mk ((by rw [hg];exact Nat.ne_of_gt (Qb6 (uK BK1198)):gb1210≠gb1198));replace BK1198:=Aside0.mk (Qc (uK BK1198) hb);clear hb hbox hg;obtain ⟨Ao79,co79,eo79⟩:=Kd.R_slice HO1205.out;subst eo79;have hnb80:=NB1210_1171.out;have hnc80:=NB1171_1210.out;have hnb81:=NB1210_1198.out;have hnc81:=NB1198_1210.out;have hcz82_0:=bC BK1210;have hfz82_0:=Qf BK1210.out 0;obtain ⟨Ao83,co83,eo83⟩:=Kd.R_slice HO1209.out;subst eo83)|(refine gA (some 221) Tryz.func23 #[.agg #[.slice Ao79 t1203.length co79], .int .i64 t1206, .slice Ao83 t1207.length co83] ?_;(with_reducible refine (Qbz.calls kj17 _ _ t1203 t1206 _ _ t1207 t1211 t1212 _ ?side1 ?side2 ?side3 ?side4 A63.out).mono ?_);(case side1=>refine (Kd.R_reads' (e:=3) (base:=w.heap.size) (ok:=fun k_=>((some k_≠(.slice Ao83 t1207.length co83:Value).ownBlock∧some k_≠(.slice Ao11 t1167.length co11:Value).ownBlock)∧some k_≠(.slice Ao71 t1193.length co71:Value).ownBlock)) (n:=t1203.length) (c:=co79) ?_).2.2;exact (rF HO1205 BK1210 (.slice Ao79 t1203.length co79)));(case side2=>exact (Kd.R_reads' HO1205.out).2.1);(case side3=>refine (Kd.R_reads' (e:=3) (base:=w.heap.size) (ok:=fun k_=>((some k_≠(.slice Ao79 t1203.length co79:Value).ownBlock∧some k_≠(.slice Ao11 t1167.length co11:Value).ownBlock)∧some k_≠(.slice Ao71 t1193.length co71:Value).ownBlock)) (n:=t1207.length) (c:=co83) ?_).2.2;exact (rF HO1209 BK1210 (.slice Ao79 t1203.length co79)));(case side4=>exact (Kd.R_reads' HO1209.out).2.1);rintro e w84 ⟨rfl,hb⟩;refine ⟨_,rfl,?_⟩;replace HO_1172000:=Aside0.mk (Kd.R_below (rF HO_1172000 BK1210 (.slice Ao79 t1203.length co79)) hb);replace HO1195:=Aside0.mk (Kd.R_below (rF HO1195 BK1210 (.slice Ao79 t1203.length co79)) hb);replace HO1205:=Aside0.mk (Kd.R_below (rF HO1205 BK1210 (.slice Ao79 t1203.length co79)) hb);replace HO1209:=Aside0.mk (Kd.R_below (rF HO1209 BK1210 (.slice Ao79 t1203.length co79)) hb);replace BK1171:=Aside0.mk (Qc (g:=gb1171) (o:= .cells #[.slice Ao11 t1167.length co11] 26 (0,0)) kF hb);replace BK1198:=Aside0.mk (Qc (g:=gb1198) (o:= .cells #[.slice Ao71 t1193.length co71] 26 (0,0)) kF hb);replace BK1210:=Aside0.mk (Qc (g:=gb1210) (o:= .cells #[.slice Ao79 t1203.length co79] 26 (0,0)) bP hb);replace HB:=Aside0.mk (Qb (vB HB) hb);(try clear hb);have hcz85_0:=bC BK1210;have hfz85_0:=Qf BK1210.out 0)|(refine gA (some 228) Tryz.func86 #[.agg #[.slice Ao79 t1203.length co79], .int .i64 t1206, .slice Ao83 t1207.length co83] ?_;(with_reducible refine (Qdq.calls kj17 _ _ t1203 t1206 _ _ t1207 t1213 t1214 _ (uE HO1205) ?side2 (uE HO1209) ?side4 A64.out).mono ?_);(case side2=>exact (Kd.R_reads' HO1205.out).2.1);(case side4=>exact (Kd.R_reads' HO1209.out).2.1);rintro e w86 ⟨rfl,hb⟩;refine ⟨_,rfl,?_⟩;replace HO_1172000:=Aside0.mk (Kd.R_below (uR HO_1172000) hb);replace HO1195:=Aside0.mk (Kd.R_below (uR HO1195) hb);replace HO1205:=Aside0.mk (Kd.R_below (uR HO1205) hb);replace HO1209:=Aside0.mk (Kd.R_below (uR HO1209) hb);replace BK1171:=Aside0.mk (Qc (uK BK1171) hb);replace BK1198:=Aside0.mk (Qc (uK BK1198) hb);replace BK1210:=Aside0.mk (Qc (uK BK1210) hb);replace HB:=Aside0.mk (Qb (vB HB) hb);(try clear hb))|(refine gA (some 232) Tryz.func87 #[.slice A1 l1.length c1] ?_;(with_reducible refine (Qdy.calls kj17 _ _ l1 t1215 _ (uD HR1 HB) HC1.out A65.out).mono ?_);rintro e w87 ⟨v1216,rfl,ho0,hb⟩;refine ⟨_,rfl,?_⟩;have HO1217:=Aside0.mk (Kd.R_lower (Kd.R_new' (Kd.R_new' (Kd.R_new' (Kd.R_new' ho0 (Kd.R_lt (uR HO_1172000))) (Kd.R_lt (uR HO1195))) (Kd.R_lt (uR HO1205))) (Kd.R_lt (uR HO1209))) (Qj (vB HB)));replace HO_1172000:=Aside0.mk (Kd.R_elder' (uR HO_1172000) (Kd.R_base ho0) hb);replace HO1195:=Aside0.mk (Kd.R_elder' (uR HO1195) (Kd.R_base ho0) hb);replace HO1205:=Aside0.mk (Kd.R_elder' (uR HO1205) (Kd.R_base ho0) hb);replace HO1209:=Aside0.mk (Kd.R_elder' (uR HO1209) (Kd.R_base ho0) hb);replace BK1171:=Aside0.mk (Qc (uK BK1171) hb);replace BK1198:=Aside0.mk (Qc (uK BK1198) hb);replace BK1210:=Aside0.mk (Qc (uK BK1210) hb);replace HB:=Aside0.mk (Qb (vB HB) hb);(try clear hb ho0))|((with_reducible refine Qb9 (N:=40) rfl ?_);(try (refine Qec (by rfl) ?_;dsimp only));refine bE (N:=40) (cs:= #[.slice none 0 0]) (t:=26) ?_;intro gb1218 hg w88 hbox hb;replace HO_1172000:=Aside0.mk (Kd.R_below (uR HO_1172000) hb);replace HO1195:=Aside0.mk (Kd.R_below (uR HO1195) hb);replace HO1205:=Aside0.mk (Kd.R_below (uR HO1205) hb);replace HO1209:=Aside0.mk (Kd.R_below (uR HO1209) hb);replace HO1217:=Aside0.mk (Kd.R_below (uR HO1217) hb);have BK1218:=Aside0.mk (hbox);have GW1218:=Aside0.mk ((by rw [hg];exact (Qj (vB HB)):w.heap.size≤gb1218));have GE1218:=GW1218;replace HB:=Aside0.mk (Qb (vB HB) hb);have NB1171_1218:=Aside0.mk ((by rw [hg];exact Nat.ne_of_lt (Qb6 (uK BK1171)):gb1171≠gb1218));have NB1218_1171:=Aside0.mk ((by rw [hg];exact Nat.ne_of_gt (Qb6 (uK BK1171)):gb1218≠gb1171));replace BK1171:=Aside0.mk (Qc (uK BK1171) hb);have NB1198_1218:=Aside0.mk ((by rw [hg];exact Nat.ne_of_lt (Qb6 (uK BK1198)):gb1198≠gb1218));have NB1218_1198:=Aside0.mk ((by rw [hg];exact Nat.ne_of_gt (Qb6 (uK BK1198)):gb1218≠gb1198));replace BK1198:=Aside0.mk (Qc (uK BK1198) hb);have NB1210_1218:=Aside0.mk ((by rw [hg];exact Nat.ne_of_lt (Qb6 (uK BK1210)):gb1210≠gb1218));have NB1218_1210:=Aside0.mk ((by rw [hg];exact Nat.ne_of_gt (Qb6 (uK BK1210)):gb1218≠gb1210));replace BK1210:=Aside0.mk (Qc (uK BK1210) hb);clear hb hbox hg;obtain ⟨Ao89,co89,eo89⟩:=Kd.R_slice HO1217.out;subst eo89;have hnb90:=NB1218_1171.out;have hnc90:=NB1171_1218.out;have hnb91:=NB1218_1198.out;have hnc91:=NB1198_1218.out;have hnb92:=NB1218_1210.out;have hnc92:=NB1210_1218.out;have hcz93_0:=bC BK1218;have hfz93_0:=Qf BK1218.out 0)|(refine gA (some 235) Tryz.func17 #[.agg #[.slice Ao89 t1215.length co89]] ?_;(with_reducible refine (Qd2.calls kj17 _ _ t1215 t1219 t1222 _ ?side1 ?side2 A66.out).mono ?_);(case side1=>refine (Kd.R_reads' (e:=3) (base:=w.heap.size) (ok:=fun k_=>((((True∧some k_≠(.slice Ao11 t1167.length co11:Value).ownBlock)∧some k_≠(.slice Ao71 t1193.length co71:Value).ownBlock)∧some k_≠(.slice Ao79 t1203.length co79:Value).ownBlock)∧some k_≠(.slice Ao83 t1207.length co83:Value).ownBlock)) (n:=t1215.length) (c:=co89) ?_).2.2;exact (rF HO1217 BK1218 (.slice Ao89 t1215.length co89)));(case side2=>exact (Kd.R_reads' HO1217.out).2.1);rintro e w94 ⟨v1220,rfl,ho0,hb⟩;refine ⟨_,rfl,?_⟩;have HO1221:=Aside0.mk (Kd.R_lower (Kd.R_new' (Kd.R_new' (Kd.R_new' (Kd.R_new' (Kd.R_new' ho0 (Kd.R_lt (rF HO_1172000 BK1218 (.slice Ao89 t1215.length co89)))) (Kd.R_lt (rF HO1195 BK1218 (.slice Ao89 t1215.length co89)))) (Kd.R_lt (rF HO1205 BK1218 (.slice Ao89 t1215.length co89)))) (Kd.R_lt (rF HO1209 BK1218 (.slice Ao89 t1215.length co89)))) (Kd.R_lt (rF HO1217 BK1218 (.slice Ao89 t1215.length co89)))) (Qj (vB HB)));replace HO_1172000:=Aside0.mk (Kd.R_elder' (rF HO_1172000 BK1218 (.slice Ao89 t1215.length co89)) (Kd.R_base ho0) hb);replace HO1195:=Aside0.mk (Kd.R_elder' (rF HO1195 BK1218 (.slice Ao89 t1215.length co89)) (Kd.R_base ho0) hb);replace HO1205:=Aside0.mk (Kd.R_elder' (rF HO1205 BK1218 (.slice Ao89 t1215.length co89)) (Kd.R_base ho0) hb);replace HO1209:=Aside0.mk (Kd.R_elder' (rF HO1209 BK1218 (.slice Ao89 t1215.length co89)) (Kd.R_base ho0) hb);replace HO1217:=Aside0.mk (Kd.R_elder' (rF HO1217 BK1218 (.slice Ao89 t1215.length co89)) (Kd.R_base ho0) hb);replace BK1171:=Aside0.mk (Qc (g:=gb1171) (o:= .cells #[.slice Ao11 t1167.length co11] 26 (0,0)) kF hb);replace BK1198:=Aside0.mk (Qc (g:=gb1198) (o:= .cells #[.slice Ao71 t1193.length co71] 26 (0,0)) kF hb);replace BK1210:=Aside0.mk (Qc (g:=gb1210) (o:= .cells #[.slice Ao79 t1203.length co79] 26 (0,0)) kF hb);replace BK1218:=Aside0.mk (Qc (g:=gb1218) (o:= .cells #[.slice Ao89 t1215.length co89] 26 (0,0)) bP hb);replace HB:=Aside0.mk (Qb (vB HB) hb);(try clear hb ho0);have hcz95_0:=bC BK1218;have hfz95_0:=Qf BK1218.out 0)|(refine gA (some 240) Tryz.func88 #[.agg #[.slice Ao89 t1215.length co89]] ?_;(with_reducible refine (Qeg.calls kj17 _ _ t1215 t1223 t1226 _ (uE HO1217) ?side2 A67.out).mono ?_);(case side2=>exact (Kd.R_reads' HO1217.out).2.1);rintro e w96 ⟨v1224,rfl,ho0,hb⟩;refine ⟨_,rfl,?_⟩;have HO1225:=Aside0.mk (Kd.R_lower (Kd.R_new' (Kd.R_new' (Kd.R_new' (Kd.R_new' (Kd.R_new' (Kd.R_new' ho0 (Kd.R_lt (uR HO_1172000))) (Kd.R_lt (uR HO1195))) (Kd.R_lt (uR HO1205))) (Kd.R_lt (uR HO1209))) (Kd.R_lt (uR HO1217))) (Kd.R_lt (uR HO1221))) (Qj (vB HB)));replace HO_1172000:=Aside0.mk (Kd.R_elder' (uR HO_1172000) (Kd.R_base ho0) hb);replace HO1195:=Aside0.mk (Kd.R_elder' (uR HO1195) (Kd.R_base ho0) hb);replace HO1205:=Aside0.mk (Kd.R_elder' (uR HO1205) (Kd.R_base ho0) hb);replace HO1209:=Aside0.mk (Kd.R_elder' (uR HO1209) (Kd.R_base ho0) hb);replace HO1217:=Aside0.mk (Kd.R_elder' (uR HO1217) (Kd.R_base ho0) hb);replace HO1221:=Aside0.mk (Kd.R_elder' (uR HO1221) (Kd.R_base ho0) hb);replace BK1171:=Aside0.mk (Qc (uK BK1171) hb);replace BK1198:=Aside0.mk (Qc (uK BK1198) hb);replace BK1210:=Aside0.mk (Qc (uK BK1210) hb);replace BK1218:=Aside0.mk (Qc (uK BK1218) hb);replace HB:=Aside0.mk (Qb (vB HB) hb);(try clear hb ho0)))
       (try simp only [Act.put,List.setIfInBounds_toArray,List.set_cons_zero,List.set_cons_succ])
       go_cut [271] (fun v271 wc=> ∃ (kq:Nat) (x271_67:Bool),v271= .bool x271_67∧Aside0 (laws_FnRanksMakeRowmotion.j4 kq l1 x271_67=some r)∧Aside0 (kq≤kj17)∧Aside0 (Kd.R (Kd.int .i64) 3 wc w.heap.size (fun k_=>some k_≠((.slice Ao71 t1193.length co71):Value).ownBlock∧some k_≠((.slice Ao79 t1203.length co79):Value).ownBlock∧some k_≠((.slice Ao89 t1215.length co89):Value).ownBlock) (.slice Ao11 t1167.length co11) t1167)∧Aside0 (Kd.R (Kd.int .i64) 3 wc w.heap.size (fun k_=>some k_≠((.slice Ao11 t1167.length co11):Value).ownBlock∧some k_≠((.slice Ao79 t1203.length co79):Value).ownBlock∧some k_≠((.slice Ao89 t1215.length co89):Value).ownBlock) (.slice Ao71 t1193.length co71) t1193)∧Aside0 (Kd.R (Kd.int .i64) 3 wc w.heap.size (fun k_=>some k_≠((.slice Ao11 t1167.length co11):Value).ownBlock∧some k_≠((.slice Ao71 t1193.length co71):Value).ownBlock∧some k_≠((.slice Ao89 t1215.length co89):Value).ownBlock) (.slice Ao79 t1203.length co79) t1203)∧Aside0 (Kd.R (Kd.int .i64) 3 wc w.heap.size (fun k_=>some k_≠((.slice Ao11 t1167.length co11):Value).ownBlock∧some k_≠((.slice Ao71 t1193.length co71):Value).ownBlock∧some k_≠((.slice Ao79 t1203.length co79):Value).ownBlock) (.slice Ao89 t1215.length co89) t1215)∧Aside0 (wc.heap[gb1171]? =some (.cells #[(.slice Ao11 t1167.length co11)] 26 (0,0)))∧Aside0 (wc.heap[gb1198]? =some (.cells #[(.slice Ao71 t1193.length co71)] 26 (0,0)))∧Aside0 (wc.heap[gb1210]? =some (.cells #[(.slice Ao79 t1203.length co79)] 26 (0,0)))∧Aside0 (wc.heap[gb1218]? =some (.cells #[(.slice Ao89 t1215.length co89)] 26 (0,0)))∧Aside0 (Below w.heap.size w wc))
       case first=>as_aux_lemma=>
        have H:=HC68.out;clear HC68
        by_cases c97:(t1200 !=t1202)=true
        ·
         rw [if_pos c97] at H;have c97b0:(t1200 !=t1202)=true:=c97
         (try (have c97b1:decide (t1200=t1202)=false:=by simpa using c97))
         (try (have c97b2:(t1200==t1202)=false:=by simpa using c97))
         (try (have c97b3: ¬ (t1200=t1202):=by simpa using c97))
         clear c97
         (first|rw [c97b0] |(simp only [Qcq,Qd6];rw [c97b0])|skip)
         have H':=Aside0.mk H;clear H;go_wp2
         go_meet
         case rel=>exact ⟨_,(true),(by first|rfl|(simp;done)|(simp [*];done)),H',⟨by have:=HJ7.out;have:=HJ17.out;first|omega|exact Nat.le_refl _⟩,⟨Kd.R_mono (uR HO_1172000) (fun _ hk=>⟨hk.1.1.1.1.1.2,⟨hk.1.1.1.1.2,hk.1.1.2⟩⟩)⟩,⟨Kd.R_mono (uR HO1195) (fun _ hk=>⟨hk.1.1.1.1.1.2,⟨hk.1.1.1.1.2,hk.1.1.2⟩⟩)⟩,⟨Kd.R_mono (uR HO1205) (fun _ hk=>⟨hk.1.1.1.1.2,⟨hk.1.1.1.2,hk.1.1.2⟩⟩)⟩,⟨Kd.R_mono (uR HO1217) (fun _ hk=>⟨hk.1.1.1.1.1.2,⟨hk.1.1.1.1.2,hk.1.1.1.2⟩⟩)⟩,⟨uK BK1171⟩,⟨uK BK1198⟩,⟨uK BK1210⟩,⟨uK BK1218⟩,⟨(vB HB)⟩⟩
        ·
         rw [if_neg c97] at H;have c97b0:(t1200 !=t1202)=false:=by simpa using c97
         (try (have c97b1:decide (t1200=t1202)=true:=by simpa using c97))
         (try (have c97b2:(t1200==t1202)=true:=by simpa using c97))
         clear c97
         (first|rw [c97b0] |(simp only [Qcq,Qd6];rw [c97b0])|skip)
         by_cases c98:t1199=t1201
         ·
          rw [if_pos c98] at H;have c98b0:(t1199==t1201)=true:=beq_iff_eq.mpr c98;have c98b1:(t1199 !=t1201)=false:=bne_eq_false_iff_eq.mpr c98;clear c98
          by_cases c99:(t1212 !=t1214)=true
          ·
           as_aux_lemma=>
           rw [if_pos c99] at H;have c99b0:(t1212 !=t1214)=true:=c99
           (try (have c99b1:decide (t1212=t1214)=false:=by simpa using c99))
           (try (have c99b2:(t1212==t1214)=false:=by simpa using c99))
           (try (have c99b3: ¬ (t1212=t1214):=by simpa using c99))
           clear c99;have H':=Aside0.mk H;clear H;go_wp2
           go_meet
           case rel=>exact ⟨_,(true),(by first|rfl|(simp;done)|(simp [*];done)),H',⟨by have:=HJ7.out;have:=HJ17.out;first|omega|exact Nat.le_refl _⟩,⟨Kd.R_mono (uR HO_1172000) (fun _ hk=>⟨hk.1.1.1.1.1.2,⟨hk.1.1.1.1.2,hk.1.1.2⟩⟩)⟩,⟨Kd.R_mono (uR HO1195) (fun _ hk=>⟨hk.1.1.1.1.1.2,⟨hk.1.1.1.1.2,hk.1.1.2⟩⟩)⟩,⟨Kd.R_mono (uR HO1205) (fun _ hk=>⟨hk.1.1.1.1.2,⟨hk.1.1.1.2,hk.1.1.2⟩⟩)⟩,⟨Kd.R_mono (uR HO1217) (fun _ hk=>⟨hk.1.1.1.1.1.2,⟨hk.1.1.1.1.2,hk.1.1.1.2⟩⟩)⟩,⟨uK BK1171⟩,⟨uK BK1198⟩,⟨uK BK1210⟩,⟨uK BK1218⟩,⟨(vB HB)⟩⟩
          ·
           rw [if_neg c99] at H;have c99b0:(t1212 !=t1214)=false:=by simpa using c99
           (try (have c99b1:decide (t1212=t1214)=true:=by simpa using c99))
           (try (have c99b2:(t1212==t1214)=true:=by simpa using c99))
           clear c99
           by_cases c100:t1211=t1213
           ·
            rw [if_pos c100] at H;have c100b0:(t1211==t1213)=true:=beq_iff_eq.mpr c100;have c100b1:(t1211 !=t1213)=false:=bne_eq_false_iff_eq.mpr c100;clear c100
            by_cases c101:(t1222 !=t1226)=true
            ·
             rw [if_pos c101] at H;have c101b0:(t1222 !=t1226)=true:=c101
             (try (have c101b1:decide (t1222=t1226)=false:=by simpa using c101))
             (try (have c101b2:(t1222==t1226)=false:=by simpa using c101))
             (try (have c101b3: ¬ (t1222=t1226):=by simpa using c101))
             clear c101;have H':=Aside0.mk H;clear H;go_wp2
             go_meet
             case rel=>exact ⟨_,(true),(by first|rfl|(simp;done)|(simp [*];done)),H',⟨by have:=HJ7.out;have:=HJ17.out;first|omega|exact Nat.le_refl _⟩,⟨Kd.R_mono (uR HO_1172000) (fun _ hk=>⟨hk.1.1.1.1.1.2,⟨hk.1.1.1.1.2,hk.1.1.2⟩⟩)⟩,⟨Kd.R_mono (uR HO1195) (fun _ hk=>⟨hk.1.1.1.1.1.2,⟨hk.1.1.1.1.2,hk.1.1.2⟩⟩)⟩,⟨Kd.R_mono (uR HO1205) (fun _ hk=>⟨hk.1.1.1.1.2,⟨hk.1.1.1.2,hk.1.1.2⟩⟩)⟩,⟨Kd.R_mono (uR HO1217) (fun _ hk=>⟨hk.1.1.1.1.1.2,⟨hk.1.1.1.1.2,hk.1.1.1.2⟩⟩)⟩,⟨uK BK1171⟩,⟨uK BK1198⟩,⟨uK BK1210⟩,⟨uK BK1218⟩,⟨(vB HB)⟩⟩
            ·
             rw [if_neg c101] at H;have c101b0:(t1222 !=t1226)=false:=by simpa using c101
             (try (have c101b1:decide (t1222=t1226)=true:=by simpa using c101))
             (try (have c101b2:(t1222==t1226)=true:=by simpa using c101))
             clear c101;obtain ⟨t1227,A102,H⟩:=bs H;(try dsimp only at H)
             have H':=Aside0.mk H;clear H;obtain ⟨Ao103,co103,eo103⟩:=Kd.R_slice HO1221.out;subst eo103;obtain ⟨Ao104,co104,eo104⟩:=Kd.R_slice HO1225.out;subst eo104;go_wp2_with (first|(go_at_call 22;(with_reducible refine (Qcn.calls kj17 _ _ t1219 _ _ t1223 t1227 _ (uE HO1221) ?side2 (uE HO1225) ?side4 A102.out).mono ?_);(case side2=>exact (Kd.R_reads' HO1221.out).2.1);(case side4=>exact (Kd.R_reads' HO1225.out).2.1);rintro e w' ⟨rfl,⟨nd,rfl⟩⟩))
             go_meet
             case rel=>exact ⟨_,(!t1227),(by first|rfl|(simp;done)|(simp [*];done)),H',⟨by have:=HJ7.out;have:=HJ17.out;first|omega|exact Nat.le_refl _⟩,⟨Kd.R_mono (uR HO_1172000) (fun _ hk=>⟨hk.1.1.1.1.1.2,⟨hk.1.1.1.1.2,hk.1.1.2⟩⟩)⟩,⟨Kd.R_mono (uR HO1195) (fun _ hk=>⟨hk.1.1.1.1.1.2,⟨hk.1.1.1.1.2,hk.1.1.2⟩⟩)⟩,⟨Kd.R_mono (uR HO1205) (fun _ hk=>⟨hk.1.1.1.1.2,⟨hk.1.1.1.2,hk.1.1.2⟩⟩)⟩,⟨Kd.R_mono (uR HO1217) (fun _ hk=>⟨hk.1.1.1.1.1.2,⟨hk.1.1.1.1.2,hk.1.1.1.2⟩⟩)⟩,⟨uK BK1171⟩,⟨uK BK1198⟩,⟨uK BK1210⟩,⟨uK BK1218⟩,⟨(vB HB)⟩⟩
           ·
            rw [if_neg c100] at H;have c100b0:(t1211==t1213)=false:=beq_eq_false_iff_ne.mpr c100;have c100b1:(t1211 !=t1213)=true:=bne_iff_ne.mpr c100;have H':=Aside0.mk H;clear H;go_wp2
            go_meet
            case rel=>exact ⟨_,(true),(by first|rfl|(simp;done)|(simp [*];done)),H',⟨by have:=HJ7.out;have:=HJ17.out;first|omega|exact Nat.le_refl _⟩,⟨Kd.R_mono (uR HO_1172000) (fun _ hk=>⟨hk.1.1.1.1.1.2,⟨hk.1.1.1.1.2,hk.1.1.2⟩⟩)⟩,⟨Kd.R_mono (uR HO1195) (fun _ hk=>⟨hk.1.1.1.1.1.2,⟨hk.1.1.1.1.2,hk.1.1.2⟩⟩)⟩,⟨Kd.R_mono (uR HO1205) (fun _ hk=>⟨hk.1.1.1.1.2,⟨hk.1.1.1.2,hk.1.1.2⟩⟩)⟩,⟨Kd.R_mono (uR HO1217) (fun _ hk=>⟨hk.1.1.1.1.1.2,⟨hk.1.1.1.1.2,hk.1.1.1.2⟩⟩)⟩,⟨uK BK1171⟩,⟨uK BK1198⟩,⟨uK BK1210⟩,⟨uK BK1218⟩,⟨(vB HB)⟩⟩
         ·
          rw [if_neg c98] at H;have c98b0:(t1199==t1201)=false:=beq_eq_false_iff_ne.mpr c98;have c98b1:(t1199 !=t1201)=true:=bne_iff_ne.mpr c98;have H':=Aside0.mk H;clear H;go_wp2
          go_meet
          case rel=>exact ⟨_,(true),(by first|rfl|(simp;done)|(simp [*];done)),H',⟨by have:=HJ7.out;have:=HJ17.out;first|omega|exact Nat.le_refl _⟩,⟨Kd.R_mono (uR HO_1172000) (fun _ hk=>⟨hk.1.1.1.1.1.2,⟨hk.1.1.1.1.2,hk.1.1.2⟩⟩)⟩,⟨Kd.R_mono (uR HO1195) (fun _ hk=>⟨hk.1.1.1.1.1.2,⟨hk.1.1.1.1.2,hk.1.1.2⟩⟩)⟩,⟨Kd.R_mono (uR HO1205) (fun _ hk=>⟨hk.1.1.1.1.2,⟨hk.1.1.1.2,hk.1.1.2⟩⟩)⟩,⟨Kd.R_mono (uR HO1217) (fun _ hk=>⟨hk.1.1.1.1.1.2,⟨hk.1.1.1.1.2,hk.1.1.1.2⟩⟩)⟩,⟨uK BK1171⟩,⟨uK BK1198⟩,⟨uK BK1210⟩,⟨uK BK1218⟩,⟨(vB HB)⟩⟩
       case rest=>as_aux_lemma=>
        clear HC68
        try clear hcz73_0 hcz75_0 hcz82_0 hcz85_0 hcz93_0 hcz95_0 hfz73_0 hfz75_0 hfz82_0 hfz85_0 hfz93_0 hfz95_0
        obtain ⟨kq,x271_67,rfl,HA,HJ67,HO_1172000,HO_1199000,HO_1211000,HO_1219000,BK1171,BK1198,BK1210,BK1218,HB⟩:=hcut;cases kq with
        |zero=>exact absurd HA.out (by simp [laws_FnRanksMakeRowmotion.j4])
        |succ kj67=>
         have H:=HA.out;clear HA;simp only [laws_FnRanksMakeRowmotion.j4] at H
         by_cases c105:x271_67=true
         ·
          subst c105;rw [if_pos rfl] at H;exact absurd H (by simp)
         ·
          replace c105:=Bool.eq_false_iff.mpr c105;subst c105;rw [if_neg (show ¬ (false=true) by decide)] at H;obtain ⟨⟨t1228,t1231⟩,A106,H⟩:=bs H;(try dsimp only at H)
          obtain ⟨⟨t1233,t1234⟩,A107,H⟩:=bs H;(try dsimp only at H)
          obtain ⟨⟨t1235,t1236⟩,A108,H⟩:=bs H;(try dsimp only at H)
          obtain ⟨⟨t1237,t1238⟩,A109,H⟩:=bs H;(try dsimp only at H)
          obtain ⟨⟨t1239,t1240⟩,A110,H⟩:=bs H;(try dsimp only at H)
          have HC111:=Aside0.mk H;clear H;go_upto_region 46 with ((with_reducible refine gt ?_);first|(refine gA (some 274) Tryz.func89 #[.slice A1 l1.length c1] ?_;(with_reducible refine (Qdd.calls kj67 _ _ l1 t1228 t1231 _ (uD HR1 HB) HC1.out A106.out).mono ?_);rintro e w112 ⟨v1229,rfl,ho0,hb⟩;refine ⟨_,rfl,?_⟩;have HO1230:=Aside0.mk (Kd.R_lower (Kd.R_new' (Kd.R_new' (Kd.R_new' (Kd.R_new' ho0 (Kd.R_lt (uR HO_1172000))) (Kd.R_lt (uR HO_1199000))) (Kd.R_lt (uR HO_1211000))) (Kd.R_lt (uR HO_1219000))) (Qj (vB HB)));replace HO_1172000:=Aside0.mk (Kd.R_elder' (uR HO_1172000) (Kd.R_base ho0) hb);replace HO_1199000:=Aside0.mk (Kd.R_elder' (uR HO_1199000) (Kd.R_base ho0) hb);replace HO_1211000:=Aside0.mk (Kd.R_elder' (uR HO_1211000) (Kd.R_base ho0) hb);replace HO_1219000:=Aside0.mk (Kd.R_elder' (uR HO_1219000) (Kd.R_base ho0) hb);replace BK1171:=Aside0.mk (Qc (uK BK1171) hb);replace BK1198:=Aside0.mk (Qc (uK BK1198) hb);replace BK1210:=Aside0.mk (Qc (uK BK1210) hb);replace BK1218:=Aside0.mk (Qc (uK BK1218) hb);replace HB:=Aside0.mk (Qb (vB HB) hb);(try clear hb ho0))|((with_reducible refine Qb9 (N:=45) rfl ?_);(try (refine Qec (by rfl) ?_;dsimp only));refine bE (N:=45) (cs:= #[.slice none 0 0]) (t:=26) ?_;intro gb1232 hg w113 hbox hb;replace HO_1172000:=Aside0.mk (Kd.R_below (uR HO_1172000) hb);replace HO_1199000:=Aside0.mk (Kd.R_below (uR HO_1199000) hb);replace HO_1211000:=Aside0.mk (Kd.R_below (uR HO_1211000) hb);replace HO_1219000:=Aside0.mk (Kd.R_below (uR HO_1219000) hb);replace HO1230:=Aside0.mk (Kd.R_below (uR HO1230) hb);have BK1232:=Aside0.mk (hbox);have GW1232:=Aside0.mk ((by rw [hg];exact (Qj (vB HB)):w.heap.size≤gb1232));have GE1232:=GW1232;replace HB:=Aside0.mk (Qb (vB HB) hb);have NB1171_1232:=Aside0.mk ((by rw [hg];exact Nat.ne_of_lt (Qb6 (uK BK1171)):gb1171≠gb1232));have NB1232_1171:=Aside0.mk ((by rw [hg];exact Nat.ne_of_gt (Qb6 (uK BK1171)):gb1232≠gb1171));replace BK1171:=Aside0.mk (Qc (uK BK1171) hb);have NB1198_1232:=Aside0.mk ((by rw [hg];exact Nat.ne_of_lt (Qb6 (uK BK1198)):gb1198≠gb1232));have NB1232_1198:=Aside0.mk ((by rw [hg];exact Nat.ne_of_gt (Qb6 (uK BK1198)):gb1232≠gb1198));replace BK1198:=Aside0.mk (Qc (uK BK1198) hb);have NB1210_1232:=Aside0.mk ((by rw [hg];exact Nat.ne_of_lt (Qb6 (uK BK1210)):gb1210≠gb1232));have NB1232_1210:=Aside0.mk ((by rw [hg];exact Nat.ne_of_gt (Qb6 (uK BK1210)):gb1232≠gb1210));replace BK1210:=Aside0.mk (Qc (uK BK1210) hb);have NB1218_1232:=Aside0.mk ((by rw [hg];exact Nat.ne_of_lt (Qb6 (uK BK1218)):gb1218≠gb1232));have NB1232_1218:=Aside0.mk ((by rw [hg];exact Nat.ne_of_gt (Qb6 (uK BK1218)):gb1232≠gb1218));replace BK1218:=Aside0.mk (Qc (uK BK1218) hb);clear hb hbox hg;obtain ⟨Ao114,co114,eo114⟩:=Kd.R_slice HO1230.out;subst eo114;have hnb115:=NB1232_1171.out;have hnc115:=NB1171_1232.out;have hnb116:=NB1232_1198.out;have hnc116:=NB1198_1232.out;have hnb117:=NB1232_1210.out;have hnc117:=NB1210_1232.out;have hnb118:=NB1232_1218.out;have hnc118:=NB1218_1232.out;have hcz119_0:=bC BK1232;have hfz119_0:=Qf BK1232.out 0)|(refine gA (some 280) Tryz.func90 #[.agg #[.slice Ao114 t1228.length co114], .int .i64 t1231] ?_;(with_reducible refine (Qdp.calls kj67 _ _ t1228 t1231 t1233 t1234 _ ?side1 ?side2 A107.out).mono ?_);(case side1=>refine (Kd.R_reads' (e:=3) (base:=w.heap.size) (ok:=fun k_=>((((True∧some k_≠(.slice Ao11 t1167.length co11:Value).ownBlock)∧some k_≠(.slice Ao71 t1193.length co71:Value).ownBlock)∧some k_≠(.slice Ao79 t1203.length co79:Value).ownBlock)∧some k_≠(.slice Ao89 t1215.length co89:Value).ownBlock)) (n:=t1228.length) (c:=co114) ?_).2.2;exact (rF HO1230 BK1232 (.slice Ao114 t1228.length co114)));(case side2=>exact (Kd.R_reads' HO1230.out).2.1);rintro e w120 ⟨rfl,hb⟩;refine ⟨_,rfl,?_⟩;replace HO_1172000:=Aside0.mk (Kd.R_below (rF HO_1172000 BK1232 (.slice Ao114 t1228.length co114)) hb);replace HO_1199000:=Aside0.mk (Kd.R_below (rF HO_1199000 BK1232 (.slice Ao114 t1228.length co114)) hb);replace HO_1211000:=Aside0.mk (Kd.R_below (rF HO_1211000 BK1232 (.slice Ao114 t1228.length co114)) hb);replace HO_1219000:=Aside0.mk (Kd.R_below (rF HO_1219000 BK1232 (.slice Ao114 t1228.length co114)) hb);replace HO1230:=Aside0.mk (Kd.R_below (rF HO1230 BK1232 (.slice Ao114 t1228.length co114)) hb);replace BK1171:=Aside0.mk (Qc (g:=gb1171) (o:= .cells #[.slice Ao11 t1167.length co11] 26 (0,0)) kF hb);replace BK1198:=Aside0.mk (Qc (g:=gb1198) (o:= .cells #[.slice Ao71 t1193.length co71] 26 (0,0)) kF hb);replace BK1210:=Aside0.mk (Qc (g:=gb1210) (o:= .cells #[.slice Ao79 t1203.length co79] 26 (0,0)) kF hb);replace BK1218:=Aside0.mk (Qc (g:=gb1218) (o:= .cells #[.slice Ao89 t1215.length co89] 26 (0,0)) kF hb);replace BK1232:=Aside0.mk (Qc (g:=gb1232) (o:= .cells #[.slice Ao114 t1228.length co114] 26 (0,0)) bP hb);replace HB:=Aside0.mk (Qb (vB HB) hb);(try clear hb);have hcz121_0:=bC BK1232;have hfz121_0:=Qf BK1232.out 0)|(refine gA (some 286) Tryz.func91 #[.agg #[.slice Ao114 t1228.length co114], .int .i64 t1231] ?_;(with_reducible refine (Qdz.calls kj67 _ _ t1228 t1231 t1235 t1236 _ (uE HO1230) ?side2 A108.out).mono ?_);(case side2=>exact (Kd.R_reads' HO1230.out).2.1);rintro e w122 ⟨rfl,hb⟩;refine ⟨_,rfl,?_⟩;replace HO_1172000:=Aside0.mk (Kd.R_below (uR HO_1172000) hb);replace HO_1199000:=Aside0.mk (Kd.R_below (uR HO_1199000) hb);replace HO_1211000:=Aside0.mk (Kd.R_below (uR HO_1211000) hb);replace HO_1219000:=Aside0.mk (Kd.R_below (uR HO_1219000) hb);replace HO1230:=Aside0.mk (Kd.R_below (uR HO1230) hb);replace BK1171:=Aside0.mk (Qc (uK BK1171) hb);replace BK1198:=Aside0.mk (Qc (uK BK1198) hb);replace BK1210:=Aside0.mk (Qc (uK BK1210) hb);replace BK1218:=Aside0.mk (Qc (uK BK1218) hb);replace BK1232:=Aside0.mk (Qc (uK BK1232) hb);replace HB:=Aside0.mk (Qb (vB HB) hb);(try clear hb);have hcz123_0:=bC BK1232;have hfz123_0:=Qf BK1232.out 0)|(refine gA (some 292) Tryz.func92 #[.agg #[.slice Ao114 t1228.length co114], .int .i64 t1231] ?_;(with_reducible refine (Qck.calls kj67 _ _ t1228 t1231 t1237 t1238 _ (uE HO1230) ?side2 A109.out).mono ?_);(case side2=>exact (Kd.R_reads' HO1230.out).2.1);rintro e w124 ⟨rfl,hb⟩;refine ⟨_,rfl,?_⟩;replace HO_1172000:=Aside0.mk (Kd.R_below (uR HO_1172000) hb);replace HO_1199000:=Aside0.mk (Kd.R_below (uR HO_1199000) hb);replace HO_1211000:=Aside0.mk (Kd.R_below (uR HO_1211000) hb);replace HO_1219000:=Aside0.mk (Kd.R_below (uR HO_1219000) hb);replace HO1230:=Aside0.mk (Kd.R_below (uR HO1230) hb);replace BK1171:=Aside0.mk (Qc (uK BK1171) hb);replace BK1198:=Aside0.mk (Qc (uK BK1198) hb);replace BK1210:=Aside0.mk (Qc (uK BK1210) hb);replace BK1218:=Aside0.mk (Qc (uK BK1218) hb);replace BK1232:=Aside0.mk (Qc (uK BK1232) hb);replace HB:=Aside0.mk (Qb (vB HB) hb);(try clear hb);have hcz125_0:=bC BK1232;have hfz125_0:=Qf BK1232.out 0)|(refine gA (some 298) Tryz.func93 #[.agg #[.slice Ao114 t1228.length co114], .int .i64 t1231] ?_;(with_reducible refine (Qd3.calls kj67 _ _ t1228 t1231 t1239 t1240 _ (uE HO1230) ?side2 A110.out).mono ?_);(case side2=>exact (Kd.R_reads' HO1230.out).2.1);rintro e w126 ⟨rfl,hb⟩;refine ⟨_,rfl,?_⟩;replace HO_1172000:=Aside0.mk (Kd.R_below (uR HO_1172000) hb);replace HO_1199000:=Aside0.mk (Kd.R_below (uR HO_1199000) hb);replace HO_1211000:=Aside0.mk (Kd.R_below (uR HO_1211000) hb);replace HO_1219000:=Aside0.mk (Kd.R_below (uR HO_1219000) hb);replace HO1230:=Aside0.mk (Kd.R_below (uR HO1230) hb);replace BK1171:=Aside0.mk (Qc (uK BK1171) hb);replace BK1198:=Aside0.mk (Qc (uK BK1198) hb);replace BK1210:=Aside0.mk (Qc (uK BK1210) hb);replace BK1218:=Aside0.mk (Qc (uK BK1218) hb);replace BK1232:=Aside0.mk (Qc (uK BK1232) hb);replace HB:=Aside0.mk (Qb (vB HB) hb);(try clear hb)))
          (try simp only [Act.put,List.setIfInBounds_toArray,List.set_cons_zero,List.set_cons_succ])
          go_cut [323] (fun v323 wc=> ∃ (kq:Nat) (x323_110:Bool),v323= .bool x323_110∧Aside0 (laws_FnRanksMakeRowmotion.j5 kq l1 t1231 t1233 t1234 x323_110 t1228=some r)∧Aside0 (kq≤kj67)∧Aside0 (Kd.R (Kd.int .i64) 3 wc w.heap.size (fun k_=>some k_≠((.slice Ao71 t1193.length co71):Value).ownBlock∧some k_≠((.slice Ao79 t1203.length co79):Value).ownBlock∧some k_≠((.slice Ao89 t1215.length co89):Value).ownBlock∧some k_≠((.slice Ao114 t1228.length co114):Value).ownBlock) (.slice Ao11 t1167.length co11) t1167)∧Aside0 (Kd.R (Kd.int .i64) 3 wc w.heap.size (fun k_=>some k_≠((.slice Ao11 t1167.length co11):Value).ownBlock∧some k_≠((.slice Ao79 t1203.length co79):Value).ownBlock∧some k_≠((.slice Ao89 t1215.length co89):Value).ownBlock∧some k_≠((.slice Ao114 t1228.length co114):Value).ownBlock) (.slice Ao71 t1193.length co71) t1193)∧Aside0 (Kd.R (Kd.int .i64) 3 wc w.heap.size (fun k_=>some k_≠((.slice Ao11 t1167.length co11):Value).ownBlock∧some k_≠((.slice Ao71 t1193.length co71):Value).ownBlock∧some k_≠((.slice Ao89 t1215.length co89):Value).ownBlock∧some k_≠((.slice Ao114 t1228.length co114):Value).ownBlock) (.slice Ao79 t1203.length co79) t1203)∧Aside0 (Kd.R (Kd.int .i64) 3 wc w.heap.size (fun k_=>some k_≠((.slice Ao11 t1167.length co11):Value).ownBlock∧some k_≠((.slice Ao71 t1193.length co71):Value).ownBlock∧some k_≠((.slice Ao79 t1203.length co79):Value).ownBlock∧some k_≠((.slice Ao114 t1228.length co114):Value).ownBlock) (.slice Ao89 t1215.length co89) t1215)∧Aside0 (Kd.R (Kd.int .i64) 3 wc w.heap.size (fun k_=>some k_≠((.slice Ao11 t1167.length co11):Value).ownBlock∧some k_≠((.slice Ao71 t1193.length co71):Value).ownBlock∧some k_≠((.slice Ao79 t1203.length co79):Value).ownBlock∧some k_≠((.slice Ao89 t1215.length co89):Value).ownBlock) (.slice Ao114 t1228.length co114) t1228)∧Aside0 (wc.heap[gb1171]? =some (.cells #[(.slice Ao11 t1167.length co11)] 26 (0,0)))∧Aside0 (wc.heap[gb1198]? =some (.cells #[(.slice Ao71 t1193.length co71)] 26 (0,0)))∧Aside0 (wc.heap[gb1210]? =some (.cells #[(.slice Ao79 t1203.length co79)] 26 (0,0)))∧Aside0 (wc.heap[gb1218]? =some (.cells #[(.slice Ao89 t1215.length co89)] 26 (0,0)))∧Aside0 (wc.heap[gb1232]? =some (.cells #[(.slice Ao114 t1228.length co114)] 26 (0,0)))∧Aside0 (Below w.heap.size w wc))
          case first=>as_aux_lemma=>
           have H:=HC111.out;clear HC111
           by_cases c127:(t1234 !=t1236)=true
           ·
            rw [if_pos c127] at H;have c127b0:(t1234 !=t1236)=true:=c127
            (try (have c127b1:decide (t1234=t1236)=false:=by simpa using c127))
            (try (have c127b2:(t1234==t1236)=false:=by simpa using c127))
            (try (have c127b3: ¬ (t1234=t1236):=by simpa using c127))
            clear c127
            (first|rw [c127b0] |(simp only [Qcq,Qd6];rw [c127b0])|skip)
            have H':=Aside0.mk H;clear H;go_wp2
            go_meet
            case rel=>exact ⟨_,(true),(by first|rfl|(simp;done)|(simp [*];done)),H',⟨by have:=HJ7.out;have:=HJ17.out;have:=HJ67.out;first|omega|exact Nat.le_refl _⟩,⟨Kd.R_mono (uR HO_1172000) (fun _ hk=>⟨hk.1.1,⟨hk.1.2.1,⟨hk.1.2.2,hk.2⟩⟩⟩)⟩,⟨Kd.R_mono (uR HO_1199000) (fun _ hk=>⟨hk.1.1,⟨hk.1.2.1,⟨hk.1.2.2,hk.2⟩⟩⟩)⟩,⟨Kd.R_mono (uR HO_1211000) (fun _ hk=>⟨hk.1.1,⟨hk.1.2.1,⟨hk.1.2.2,hk.2⟩⟩⟩)⟩,⟨Kd.R_mono (uR HO_1219000) (fun _ hk=>⟨hk.1.1,⟨hk.1.2.1,⟨hk.1.2.2,hk.2⟩⟩⟩)⟩,⟨Kd.R_mono (uR HO1230) (fun _ hk=>⟨hk.1.1.1.2,⟨hk.1.1.2,⟨hk.1.2,hk.2⟩⟩⟩)⟩,⟨uK BK1171⟩,⟨uK BK1198⟩,⟨uK BK1210⟩,⟨uK BK1218⟩,⟨uK BK1232⟩,⟨(vB HB)⟩⟩
           ·
            rw [if_neg c127] at H;have c127b0:(t1234 !=t1236)=false:=by simpa using c127
            (try (have c127b1:decide (t1234=t1236)=true:=by simpa using c127))
            (try (have c127b2:(t1234==t1236)=true:=by simpa using c127))
            clear c127
            (first|rw [c127b0] |(simp only [Qcq,Qd6];rw [c127b0])|skip)
            by_cases c128:t1233=t1235
            ·
             rw [if_pos c128] at H;have c128b0:(t1233==t1235)=true:=beq_iff_eq.mpr c128;have c128b1:(t1233 !=t1235)=false:=bne_eq_false_iff_eq.mpr c128;clear c128
             by_cases c129:(t1238 !=t1240)=true
             ·
              rw [if_pos c129] at H;have c129b0:(t1238 !=t1240)=true:=c129
              (try (have c129b1:decide (t1238=t1240)=false:=by simpa using c129))
              (try (have c129b2:(t1238==t1240)=false:=by simpa using c129))
              (try (have c129b3: ¬ (t1238=t1240):=by simpa using c129))
              clear c129;have H':=Aside0.mk H;clear H;go_wp2
              go_meet
              case rel=>exact ⟨_,(true),(by first|rfl|(simp;done)|(simp [*];done)),H',⟨by have:=HJ7.out;have:=HJ17.out;have:=HJ67.out;first|omega|exact Nat.le_refl _⟩,⟨Kd.R_mono (uR HO_1172000) (fun _ hk=>⟨hk.1.1,⟨hk.1.2.1,⟨hk.1.2.2,hk.2⟩⟩⟩)⟩,⟨Kd.R_mono (uR HO_1199000) (fun _ hk=>⟨hk.1.1,⟨hk.1.2.1,⟨hk.1.2.2,hk.2⟩⟩⟩)⟩,⟨Kd.R_mono (uR HO_1211000) (fun _ hk=>⟨hk.1.1,⟨hk.1.2.1,⟨hk.1.2.2,hk.2⟩⟩⟩)⟩,⟨Kd.R_mono (uR HO_1219000) (fun _ hk=>⟨hk.1.1,⟨hk.1.2.1,⟨hk.1.2.2,hk.2⟩⟩⟩)⟩,⟨Kd.R_mono (uR HO1230) (fun _ hk=>⟨hk.1.1.1.2,⟨hk.1.1.2,⟨hk.1.2,hk.2⟩⟩⟩)⟩,⟨uK BK1171⟩,⟨uK BK1198⟩,⟨uK BK1210⟩,⟨uK BK1218⟩,⟨uK BK1232⟩,⟨(vB HB)⟩⟩
             ·
              rw [if_neg c129] at H;have c129b0:(t1238 !=t1240)=false:=by simpa using c129
              (try (have c129b1:decide (t1238=t1240)=true:=by simpa using c129))
              (try (have c129b2:(t1238==t1240)=true:=by simpa using c129))
              clear c129
              by_cases c130:t1237=t1239
              ·
               rw [if_pos c130] at H;have c130b0:(t1237==t1239)=true:=beq_iff_eq.mpr c130;have c130b1:(t1237 !=t1239)=false:=bne_eq_false_iff_eq.mpr c130;clear c130;have H':=Aside0.mk H;clear H;go_wp2
               go_meet
               case rel=>exact ⟨_,((t1234 !=t1238)),(by first|rfl|(simp;done)|(simp [*];done)),H',⟨by have:=HJ7.out;have:=HJ17.out;have:=HJ67.out;first|omega|exact Nat.le_refl _⟩,⟨Kd.R_mono (uR HO_1172000) (fun _ hk=>⟨hk.1.1,⟨hk.1.2.1,⟨hk.1.2.2,hk.2⟩⟩⟩)⟩,⟨Kd.R_mono (uR HO_1199000) (fun _ hk=>⟨hk.1.1,⟨hk.1.2.1,⟨hk.1.2.2,hk.2⟩⟩⟩)⟩,⟨Kd.R_mono (uR HO_1211000) (fun _ hk=>⟨hk.1.1,⟨hk.1.2.1,⟨hk.1.2.2,hk.2⟩⟩⟩)⟩,⟨Kd.R_mono (uR HO_1219000) (fun _ hk=>⟨hk.1.1,⟨hk.1.2.1,⟨hk.1.2.2,hk.2⟩⟩⟩)⟩,⟨Kd.R_mono (uR HO1230) (fun _ hk=>⟨hk.1.1.1.2,⟨hk.1.1.2,⟨hk.1.2,hk.2⟩⟩⟩)⟩,⟨uK BK1171⟩,⟨uK BK1198⟩,⟨uK BK1210⟩,⟨uK BK1218⟩,⟨uK BK1232⟩,⟨(vB HB)⟩⟩
              ·
               rw [if_neg c130] at H;have c130b0:(t1237==t1239)=false:=beq_eq_false_iff_ne.mpr c130;have c130b1:(t1237 !=t1239)=true:=bne_iff_ne.mpr c130;have H':=Aside0.mk H;clear H;go_wp2
               go_meet
               case rel=>exact ⟨_,(true),(by first|rfl|(simp;done)|(simp [*];done)),H',⟨by have:=HJ7.out;have:=HJ17.out;have:=HJ67.out;first|omega|exact Nat.le_refl _⟩,⟨Kd.R_mono (uR HO_1172000) (fun _ hk=>⟨hk.1.1,⟨hk.1.2.1,⟨hk.1.2.2,hk.2⟩⟩⟩)⟩,⟨Kd.R_mono (uR HO_1199000) (fun _ hk=>⟨hk.1.1,⟨hk.1.2.1,⟨hk.1.2.2,hk.2⟩⟩⟩)⟩,⟨Kd.R_mono (uR HO_1211000) (fun _ hk=>⟨hk.1.1,⟨hk.1.2.1,⟨hk.1.2.2,hk.2⟩⟩⟩)⟩,⟨Kd.R_mono (uR HO_1219000) (fun _ hk=>⟨hk.1.1,⟨hk.1.2.1,⟨hk.1.2.2,hk.2⟩⟩⟩)⟩,⟨Kd.R_mono (uR HO1230) (fun _ hk=>⟨hk.1.1.1.2,⟨hk.1.1.2,⟨hk.1.2,hk.2⟩⟩⟩)⟩,⟨uK BK1171⟩,⟨uK BK1198⟩,⟨uK BK1210⟩,⟨uK BK1218⟩,⟨uK BK1232⟩,⟨(vB HB)⟩⟩
            ·
             rw [if_neg c128] at H;have c128b0:(t1233==t1235)=false:=beq_eq_false_iff_ne.mpr c128;have c128b1:(t1233 !=t1235)=true:=bne_iff_ne.mpr c128;have H':=Aside0.mk H;clear H;go_wp2
             go_meet
             case rel=>exact ⟨_,(true),(by first|rfl|(simp;done)|(simp [*];done)),H',⟨by have:=HJ7.out;have:=HJ17.out;have:=HJ67.out;first|omega|exact Nat.le_refl _⟩,⟨Kd.R_mono (uR HO_1172000) (fun _ hk=>⟨hk.1.1,⟨hk.1.2.1,⟨hk.1.2.2,hk.2⟩⟩⟩)⟩,⟨Kd.R_mono (uR HO_1199000) (fun _ hk=>⟨hk.1.1,⟨hk.1.2.1,⟨hk.1.2.2,hk.2⟩⟩⟩)⟩,⟨Kd.R_mono (uR HO_1211000) (fun _ hk=>⟨hk.1.1,⟨hk.1.2.1,⟨hk.1.2.2,hk.2⟩⟩⟩)⟩,⟨Kd.R_mono (uR HO_1219000) (fun _ hk=>⟨hk.1.1,⟨hk.1.2.1,⟨hk.1.2.2,hk.2⟩⟩⟩)⟩,⟨Kd.R_mono (uR HO1230) (fun _ hk=>⟨hk.1.1.1.2,⟨hk.1.1.2,⟨hk.1.2,hk.2⟩⟩⟩)⟩,⟨uK BK1171⟩,⟨uK BK1198⟩,⟨uK BK1210⟩,⟨uK BK1218⟩,⟨uK BK1232⟩,⟨(vB HB)⟩⟩
          case rest=>as_aux_lemma=>
           clear HC111
           try clear hcz119_0 hcz121_0 hcz123_0 hcz125_0 hfz119_0 hfz121_0 hfz123_0 hfz125_0
           obtain ⟨kq,x323_110,rfl,HA,HJ110,HO_1172000,HO_1199000,HO_1211000,HO_1219000,HO_1233000,BK1171,BK1198,BK1210,BK1218,BK1232,HB⟩:=hcut;cases kq with
           |zero=>exact absurd HA.out (by simp [laws_FnRanksMakeRowmotion.j5])
           |succ kj110=>
            have H:=HA.out;clear HA;simp only [laws_FnRanksMakeRowmotion.j5] at H
            by_cases c131:x323_110=true
            ·
             subst c131;rw [if_pos rfl] at H;exact absurd H (by simp)
            ·
             replace c131:=Bool.eq_false_iff.mpr c131;subst c131;rw [if_neg (show ¬ (false=true) by decide)] at H;have HC132:=Aside0.mk H;clear H
             go_upto_if 324 with (fail)
             go_cut [] (fun wc=> ∃ (kq:Nat),Aside0 (laws_FnRanksMakeRowmotion.j6 kq l1=some r)∧Aside0 (kq≤kj110)∧Aside0 (Kd.R (Kd.int .i64) 3 wc w.heap.size (fun k_=>some k_≠((.slice Ao71 t1193.length co71):Value).ownBlock∧some k_≠((.slice Ao79 t1203.length co79):Value).ownBlock∧some k_≠((.slice Ao89 t1215.length co89):Value).ownBlock∧some k_≠((.slice Ao114 t1228.length co114):Value).ownBlock) (.slice Ao11 t1167.length co11) t1167)∧Aside0 (Kd.R (Kd.int .i64) 3 wc w.heap.size (fun k_=>some k_≠((.slice Ao11 t1167.length co11):Value).ownBlock∧some k_≠((.slice Ao79 t1203.length co79):Value).ownBlock∧some k_≠((.slice Ao89 t1215.length co89):Value).ownBlock∧some k_≠((.slice Ao114 t1228.length co114):Value).ownBlock) (.slice Ao71 t1193.length co71) t1193)∧Aside0 (Kd.R (Kd.int .i64) 3 wc w.heap.size (fun k_=>some k_≠((.slice Ao11 t1167.length co11):Value).ownBlock∧some k_≠((.slice Ao71 t1193.length co71):Value).ownBlock∧some k_≠((.slice Ao89 t1215.length co89):Value).ownBlock∧some k_≠((.slice Ao114 t1228.length co114):Value).ownBlock) (.slice Ao79 t1203.length co79) t1203)∧Aside0 (Kd.R (Kd.int .i64) 3 wc w.heap.size (fun k_=>some k_≠((.slice Ao11 t1167.length co11):Value).ownBlock∧some k_≠((.slice Ao71 t1193.length co71):Value).ownBlock∧some k_≠((.slice Ao79 t1203.length co79):Value).ownBlock∧some k_≠((.slice Ao114 t1228.length co114):Value).ownBlock) (.slice Ao89 t1215.length co89) t1215)∧Aside0 (Kd.R (Kd.int .i64) 3 wc w.heap.size (fun k_=>some k_≠((.slice Ao11 t1167.length co11):Value).ownBlock∧some k_≠((.slice Ao71 t1193.length co71):Value).ownBlock∧some k_≠((.slice Ao79 t1203.length co79):Value).ownBlock∧some k_≠((.slice Ao89 t1215.length co89):Value).ownBlock) (.slice Ao114 t1228.length co114) t1228)∧Aside0 (wc.heap[gb1171]? =some (.cells #[(.slice Ao11 t1167.length co11)] 26 (0,0)))∧Aside0 (wc.heap[gb1198]? =some (.cells #[(.slice Ao71 t1193.length co71)] 26 (0,0)))∧Aside0 (wc.heap[gb1210]? =some (.cells #[(.slice Ao79 t1203.length co79)] 26 (0,0)))∧Aside0 (wc.heap[gb1218]? =some (.cells #[(.slice Ao89 t1215.length co89)] 26 (0,0)))∧Aside0 (wc.heap[gb1232]? =some (.cells #[(.slice Ao114 t1228.length co114)] 26 (0,0)))∧Aside0 (Below w.heap.size w wc))
             case first=>as_aux_lemma=>
              have H:=HC132.out;clear HC132
              by_cases c133:t1234=true
              ·
               subst c133;rw [if_pos rfl] at H;obtain ⟨⟨t1241,t1242⟩,A134,H⟩:=bs H;(try dsimp only at H)
               by_cases c135:t1242=true
               ·
                as_aux_lemma=>
                subst c135;rw [if_pos rfl] at H
                by_cases c136:t1241=t1231
                ·
                 rw [if_pos c136] at H;have c136b0:(t1241==t1231)=true:=beq_iff_eq.mpr c136;have c136b1:(t1241 !=t1231)=false:=bne_eq_false_iff_eq.mpr c136;clear c136
                 (first|rw [c136b0] |(simp only [Qcq,Qd6];rw [c136b0])|skip)
                 have H':=Aside0.mk H;clear H;have hnb137:=NB1232_1171.out;have hnc137:=NB1171_1232.out;have hnb138:=NB1232_1198.out;have hnc138:=NB1198_1232.out;have hnb139:=NB1232_1210.out;have hnc139:=NB1210_1232.out;have hnb140:=NB1232_1218.out;have hnc140:=NB1218_1232.out;have hcz141_0:=bC BK1232;have hfz141_0:=Qf BK1232.out 0;go_wp2_with ((with_reducible refine gt ?_);first|(refine gA (some 328) Tryz.func92 #[.agg #[.slice Ao114 t1228.length co114], .int .i64 t1233] ?_;(with_reducible refine (Qck.calls kj110 _ _ t1228 t1233 t1241 true _ (uE HO_1233000) ?side2 A134.out).mono ?_);(case side2=>exact (Kd.R_reads' HO_1233000.out).2.1);rintro e w142 ⟨rfl,hb⟩;refine ⟨_,rfl,?_⟩;replace HO_1172000:=Aside0.mk (Kd.R_below (uR HO_1172000) hb);replace HO_1199000:=Aside0.mk (Kd.R_below (uR HO_1199000) hb);replace HO_1211000:=Aside0.mk (Kd.R_below (uR HO_1211000) hb);replace HO_1219000:=Aside0.mk (Kd.R_below (uR HO_1219000) hb);replace HO_1233000:=Aside0.mk (Kd.R_below (uR HO_1233000) hb);replace BK1171:=Aside0.mk (Qc (uK BK1171) hb);replace BK1198:=Aside0.mk (Qc (uK BK1198) hb);replace BK1210:=Aside0.mk (Qc (uK BK1210) hb);replace BK1218:=Aside0.mk (Qc (uK BK1218) hb);replace BK1232:=Aside0.mk (Qc (uK BK1232) hb);replace HB:=Aside0.mk (Qb (vB HB) hb);(try clear hb)))
                 go_meet
                 case rel=>exact ⟨_,H',⟨by have:=HJ7.out;have:=HJ17.out;have:=HJ67.out;have:=HJ110.out;first|omega|exact Nat.le_refl _⟩,⟨uR HO_1172000⟩,⟨uR HO_1199000⟩,⟨uR HO_1211000⟩,⟨uR HO_1219000⟩,⟨uR HO_1233000⟩,⟨uK BK1171⟩,⟨uK BK1198⟩,⟨uK BK1210⟩,⟨uK BK1218⟩,⟨uK BK1232⟩,⟨(vB HB)⟩⟩
                ·
                 rw [if_neg c136] at H;exact absurd H (by simp)
               ·
                replace c135:=Bool.eq_false_iff.mpr c135;subst c135;rw [if_neg (show ¬ (false=true) by decide)] at H;exact absurd H (by simp)
              ·
               replace c133:=Bool.eq_false_iff.mpr c133;subst c133;rw [if_neg (show ¬ (false=true) by decide)] at H;have H':=Aside0.mk H;clear H;go_wp2
               go_meet
               case rel=>exact ⟨_,H',⟨by have:=HJ7.out;have:=HJ17.out;have:=HJ67.out;have:=HJ110.out;first|omega|exact Nat.le_refl _⟩,⟨uR HO_1172000⟩,⟨uR HO_1199000⟩,⟨uR HO_1211000⟩,⟨uR HO_1219000⟩,⟨uR HO_1233000⟩,⟨uK BK1171⟩,⟨uK BK1198⟩,⟨uK BK1210⟩,⟨uK BK1218⟩,⟨uK BK1232⟩,⟨(vB HB)⟩⟩
             case rest=>as_aux_lemma=>
              clear HC132
              skip
              obtain ⟨kq,HA,HJ131,HO_1172000,HO_1199000,HO_1211000,HO_1219000,HO_1233000,BK1171,BK1198,BK1210,BK1218,BK1232,HB⟩:=hcut;cases kq with
              |zero=>exact absurd HA.out (by simp [laws_FnRanksMakeRowmotion.j6])
              |succ kj131=>
               have H:=HA.out;clear HA;simp only [laws_FnRanksMakeRowmotion.j6] at H;obtain ⟨t1243,A143,H⟩:=bs H;(try dsimp only at H)
               obtain ⟨⟨t1247,t1250⟩,A144,H⟩:=bs H;(try dsimp only at H)
               obtain ⟨⟨t1251,t1254⟩,A145,H⟩:=bs H;(try dsimp only at H)
               have HC146:=Aside0.mk H;clear H;go_upto_region 55 with ((with_reducible refine gt ?_);first|(refine gA (some 339) Tryz.func94 #[.slice A1 l1.length c1] ?_;(with_reducible refine (Qcy.calls kj131 _ _ l1 t1243 _ (uD HR1 HB) HC1.out A143.out).mono ?_);rintro e w147 ⟨v1244,rfl,ho0,hb⟩;refine ⟨_,rfl,?_⟩;have HO1245:=Aside0.mk (Kd.R_lower (Kd.R_new' (Kd.R_new' (Kd.R_new' (Kd.R_new' (Kd.R_new' ho0 (Kd.R_lt (uR HO_1172000))) (Kd.R_lt (uR HO_1199000))) (Kd.R_lt (uR HO_1211000))) (Kd.R_lt (uR HO_1219000))) (Kd.R_lt (uR HO_1233000))) (Qj (vB HB)));replace HO_1172000:=Aside0.mk (Kd.R_elder' (uR HO_1172000) (Kd.R_base ho0) hb);replace HO_1199000:=Aside0.mk (Kd.R_elder' (uR HO_1199000) (Kd.R_base ho0) hb);replace HO_1211000:=Aside0.mk (Kd.R_elder' (uR HO_1211000) (Kd.R_base ho0) hb);replace HO_1219000:=Aside0.mk (Kd.R_elder' (uR HO_1219000) (Kd.R_base ho0) hb);replace HO_1233000:=Aside0.mk (Kd.R_elder' (uR HO_1233000) (Kd.R_base ho0) hb);replace BK1171:=Aside0.mk (Qc (uK BK1171) hb);replace BK1198:=Aside0.mk (Qc (uK BK1198) hb);replace BK1210:=Aside0.mk (Qc (uK BK1210) hb);replace BK1218:=Aside0.mk (Qc (uK BK1218) hb);replace BK1232:=Aside0.mk (Qc (uK BK1232) hb);replace HB:=Aside0.mk (Qb (vB HB) hb);(try clear hb ho0))|((with_reducible refine Qb9 (N:=57) rfl ?_);(try (refine Qec (by rfl) ?_;dsimp only));refine bE (N:=57) (cs:= #[.slice none 0 0]) (t:=26) ?_;intro gb1246 hg w148 hbox hb;replace HO_1172000:=Aside0.mk (Kd.R_below (uR HO_1172000) hb);replace HO_1199000:=Aside0.mk (Kd.R_below (uR HO_1199000) hb);replace HO_1211000:=Aside0.mk (Kd.R_below (uR HO_1211000) hb);replace HO_1219000:=Aside0.mk (Kd.R_below (uR HO_1219000) hb);replace HO_1233000:=Aside0.mk (Kd.R_below (uR HO_1233000) hb);replace HO1245:=Aside0.mk (Kd.R_below (uR HO1245) hb);have BK1246:=Aside0.mk (hbox);have GW1246:=Aside0.mk ((by rw [hg];exact (Qj (vB HB)):w.heap.size≤gb1246));have GE1246:=GW1246;replace HB:=Aside0.mk (Qb (vB HB) hb);have NB1171_1246:=Aside0.mk ((by rw [hg];exact Nat.ne_of_lt (Qb6 (uK BK1171)):gb1171≠gb1246));have NB1246_1171:=Aside0.mk ((by rw [hg];exact Nat.ne_of_gt (Qb6 (uK BK1171)):gb1246≠gb1171));replace BK1171:=Aside0.mk (Qc (uK BK1171) hb);have NB1198_1246:=Aside0.mk ((by rw [hg];exact Nat.ne_of_lt (Qb6 (uK BK1198)):gb1198≠gb1246));have NB1246_1198:=Aside0.mk ((by rw [hg];exact Nat.ne_of_gt (Qb6 (uK BK1198)):gb1246≠gb1198));replace BK1198:=Aside0.mk (Qc (uK BK1198) hb);have NB1210_1246:=Aside0.mk ((by rw [hg];exact Nat.ne_of_lt (Qb6 (uK BK1210)):gb1210≠gb1246));have NB1246_1210:=Aside0.mk ((by rw [hg];exact Nat.ne_of_gt (Qb6 (uK BK1210)):gb1246≠gb1210));replace BK1210:=Aside0.mk (Qc (uK BK1210) hb);have NB1218_1246:=Aside0.mk ((by rw [hg];exact Nat.ne_of_lt (Qb6 (uK BK1218)):gb1218≠gb1246));have NB1246_1218:=Aside0.mk ((by rw [hg];exact Nat.ne_of_gt (Qb6 (uK BK1218)):gb1246≠gb1218));replace BK1218:=Aside0.mk (Qc (uK BK1218) hb);have NB1232_1246:=Aside0.mk ((by rw [hg];exact Nat.ne_of_lt (Qb6 (uK BK1232)):gb1232≠gb1246));have NB1246_1232:=Aside0.mk ((by rw [hg];exact Nat.ne_of_gt (Qb6 (uK BK1232)):gb1246≠gb1232));replace BK1232:=Aside0.mk (Qc (uK BK1232) hb);clear hb hbox hg;obtain ⟨Ao149,co149,eo149⟩:=Kd.R_slice HO1245.out;subst eo149;have hnb150:=NB1246_1171.out;have hnc150:=NB1171_1246.out;have hnb151:=NB1246_1198.out;have hnc151:=NB1198_1246.out;have hnb152:=NB1246_1210.out;have hnc152:=NB1210_1246.out;have hnb153:=NB1246_1218.out;have hnc153:=NB1218_1246.out;have hnb154:=NB1246_1232.out;have hnc154:=NB1232_1246.out;have hcz155_0:=bC BK1246;have hfz155_0:=Qf BK1246.out 0)|(refine gA (some 342) Tryz.func95 #[.agg #[.slice Ao149 t1243.length co149]] ?_;(with_reducible refine (Qcx.calls kj131 _ _ t1243 t1247 t1250 _ ?side1 ?side2 A144.out).mono ?_);(case side1=>refine (Kd.R_reads' (e:=3) (base:=w.heap.size) (ok:=fun k_=>(((((True∧some k_≠(.slice Ao11 t1167.length co11:Value).ownBlock)∧some k_≠(.slice Ao71 t1193.length co71:Value).ownBlock)∧some k_≠(.slice Ao79 t1203.length co79:Value).ownBlock)∧some k_≠(.slice Ao89 t1215.length co89:Value).ownBlock)∧some k_≠(.slice Ao114 t1228.length co114:Value).ownBlock)) (n:=t1243.length) (c:=co149) ?_).2.2;exact (rF HO1245 BK1246 (.slice Ao149 t1243.length co149)));(case side2=>exact (Kd.R_reads' HO1245.out).2.1);rintro e w156 ⟨v1248,rfl,ho0,hb⟩;refine ⟨_,rfl,?_⟩;have HO1249:=Aside0.mk (Kd.R_lower (Kd.R_new' (Kd.R_new' (Kd.R_new' (Kd.R_new' (Kd.R_new' (Kd.R_new' ho0 (Kd.R_lt (rF HO_1172000 BK1246 (.slice Ao149 t1243.length co149)))) (Kd.R_lt (rF HO_1199000 BK1246 (.slice Ao149 t1243.length co149)))) (Kd.R_lt (rF HO_1211000 BK1246 (.slice Ao149 t1243.length co149)))) (Kd.R_lt (rF HO_1219000 BK1246 (.slice Ao149 t1243.length co149)))) (Kd.R_lt (rF HO_1233000 BK1246 (.slice Ao149 t1243.length co149)))) (Kd.R_lt (rF HO1245 BK1246 (.slice Ao149 t1243.length co149)))) (Qj (vB HB)));replace HO_1172000:=Aside0.mk (Kd.R_elder' (rF HO_1172000 BK1246 (.slice Ao149 t1243.length co149)) (Kd.R_base ho0) hb);replace HO_1199000:=Aside0.mk (Kd.R_elder' (rF HO_1199000 BK1246 (.slice Ao149 t1243.length co149)) (Kd.R_base ho0) hb);replace HO_1211000:=Aside0.mk (Kd.R_elder' (rF HO_1211000 BK1246 (.slice Ao149 t1243.length co149)) (Kd.R_base ho0) hb);replace HO_1219000:=Aside0.mk (Kd.R_elder' (rF HO_1219000 BK1246 (.slice Ao149 t1243.length co149)) (Kd.R_base ho0) hb);replace HO_1233000:=Aside0.mk (Kd.R_elder' (rF HO_1233000 BK1246 (.slice Ao149 t1243.length co149)) (Kd.R_base ho0) hb);replace HO1245:=Aside0.mk (Kd.R_elder' (rF HO1245 BK1246 (.slice Ao149 t1243.length co149)) (Kd.R_base ho0) hb);replace BK1171:=Aside0.mk (Qc (g:=gb1171) (o:= .cells #[.slice Ao11 t1167.length co11] 26 (0,0)) kF hb);replace BK1198:=Aside0.mk (Qc (g:=gb1198) (o:= .cells #[.slice Ao71 t1193.length co71] 26 (0,0)) kF hb);replace BK1210:=Aside0.mk (Qc (g:=gb1210) (o:= .cells #[.slice Ao79 t1203.length co79] 26 (0,0)) kF hb);replace BK1218:=Aside0.mk (Qc (g:=gb1218) (o:= .cells #[.slice Ao89 t1215.length co89] 26 (0,0)) kF hb);replace BK1232:=Aside0.mk (Qc (g:=gb1232) (o:= .cells #[.slice Ao114 t1228.length co114] 26 (0,0)) kF hb);replace BK1246:=Aside0.mk (Qc (g:=gb1246) (o:= .cells #[.slice Ao149 t1243.length co149] 26 (0,0)) bP hb);replace HB:=Aside0.mk (Qb (vB HB) hb);(try clear hb ho0);have hcz157_0:=bC BK1246;have hfz157_0:=Qf BK1246.out 0)|(refine gA (some 347) Tryz.func96 #[.agg #[.slice Ao149 t1243.length co149]] ?_;(with_reducible refine (Qr.calls kj131 _ _ t1243 t1251 t1254 _ (uE HO1245) ?side2 A145.out).mono ?_);(case side2=>exact (Kd.R_reads' HO1245.out).2.1);rintro e w158 ⟨v1252,rfl,ho0,hb⟩;refine ⟨_,rfl,?_⟩;have HO1253:=Aside0.mk (Kd.R_lower (Kd.R_new' (Kd.R_new' (Kd.R_new' (Kd.R_new' (Kd.R_new' (Kd.R_new' (Kd.R_new' ho0 (Kd.R_lt (uR HO_1172000))) (Kd.R_lt (uR HO_1199000))) (Kd.R_lt (uR HO_1211000))) (Kd.R_lt (uR HO_1219000))) (Kd.R_lt (uR HO_1233000))) (Kd.R_lt (uR HO1245))) (Kd.R_lt (uR HO1249))) (Qj (vB HB)));replace HO_1172000:=Aside0.mk (Kd.R_elder' (uR HO_1172000) (Kd.R_base ho0) hb);replace HO_1199000:=Aside0.mk (Kd.R_elder' (uR HO_1199000) (Kd.R_base ho0) hb);replace HO_1211000:=Aside0.mk (Kd.R_elder' (uR HO_1211000) (Kd.R_base ho0) hb);replace HO_1219000:=Aside0.mk (Kd.R_elder' (uR HO_1219000) (Kd.R_base ho0) hb);replace HO_1233000:=Aside0.mk (Kd.R_elder' (uR HO_1233000) (Kd.R_base ho0) hb);replace HO1245:=Aside0.mk (Kd.R_elder' (uR HO1245) (Kd.R_base ho0) hb);replace HO1249:=Aside0.mk (Kd.R_elder' (uR HO1249) (Kd.R_base ho0) hb);replace BK1171:=Aside0.mk (Qc (uK BK1171) hb);replace BK1198:=Aside0.mk (Qc (uK BK1198) hb);replace BK1210:=Aside0.mk (Qc (uK BK1210) hb);replace BK1218:=Aside0.mk (Qc (uK BK1218) hb);replace BK1232:=Aside0.mk (Qc (uK BK1232) hb);replace BK1246:=Aside0.mk (Qc (uK BK1246) hb);replace HB:=Aside0.mk (Qb (vB HB) hb);(try clear hb ho0)))
               (try simp only [Act.put,List.setIfInBounds_toArray,List.set_cons_zero,List.set_cons_succ])
               go_cut [358] (fun v358 wc=> ∃ (kq:Nat) (x358_145:Bool),v358= .bool x358_145∧Aside0 (laws_FnRanksMakeRowmotion.j7 kq t1247 t1250 x358_145 t1243=some r)∧Aside0 (kq≤kj131)∧Aside0 (Kd.R (Kd.int .i64) 3 wc w.heap.size (fun k_=>some k_≠((.slice Ao11 t1167.length co11):Value).ownBlock∧some k_≠((.slice Ao71 t1193.length co71):Value).ownBlock∧some k_≠((.slice Ao79 t1203.length co79):Value).ownBlock∧some k_≠((.slice Ao89 t1215.length co89):Value).ownBlock∧some k_≠((.slice Ao114 t1228.length co114):Value).ownBlock∧some k_≠((.slice Ao149 t1243.length co149):Value).ownBlock) v1248 t1247)∧Aside0 (Kd.R (Kd.int .i64) 3 wc w.heap.size (fun k_=>some k_≠(v1248:Value).ownBlock∧some k_≠((.slice Ao71 t1193.length co71):Value).ownBlock∧some k_≠((.slice Ao79 t1203.length co79):Value).ownBlock∧some k_≠((.slice Ao89 t1215.length co89):Value).ownBlock∧some k_≠((.slice Ao114 t1228.length co114):Value).ownBlock∧some k_≠((.slice Ao149 t1243.length co149):Value).ownBlock) (.slice Ao11 t1167.length co11) t1167)∧Aside0 (Kd.R (Kd.int .i64) 3 wc w.heap.size (fun k_=>some k_≠(v1248:Value).ownBlock∧some k_≠((.slice Ao11 t1167.length co11):Value).ownBlock∧some k_≠((.slice Ao79 t1203.length co79):Value).ownBlock∧some k_≠((.slice Ao89 t1215.length co89):Value).ownBlock∧some k_≠((.slice Ao114 t1228.length co114):Value).ownBlock∧some k_≠((.slice Ao149 t1243.length co149):Value).ownBlock) (.slice Ao71 t1193.length co71) t1193)∧Aside0 (Kd.R (Kd.int .i64) 3 wc w.heap.size (fun k_=>some k_≠(v1248:Value).ownBlock∧some k_≠((.slice Ao11 t1167.length co11):Value).ownBlock∧some k_≠((.slice Ao71 t1193.length co71):Value).ownBlock∧some k_≠((.slice Ao89 t1215.length co89):Value).ownBlock∧some k_≠((.slice Ao114 t1228.length co114):Value).ownBlock∧some k_≠((.slice Ao149 t1243.length co149):Value).ownBlock) (.slice Ao79 t1203.length co79) t1203)∧Aside0 (Kd.R (Kd.int .i64) 3 wc w.heap.size (fun k_=>some k_≠(v1248:Value).ownBlock∧some k_≠((.slice Ao11 t1167.length co11):Value).ownBlock∧some k_≠((.slice Ao71 t1193.length co71):Value).ownBlock∧some k_≠((.slice Ao79 t1203.length co79):Value).ownBlock∧some k_≠((.slice Ao114 t1228.length co114):Value).ownBlock∧some k_≠((.slice Ao149 t1243.length co149):Value).ownBlock) (.slice Ao89 t1215.length co89) t1215)∧Aside0 (Kd.R (Kd.int .i64) 3 wc w.heap.size (fun k_=>some k_≠(v1248:Value).ownBlock∧some k_≠((.slice Ao11 t1167.length co11):Value).ownBlock∧some k_≠((.slice Ao71 t1193.length co71):Value).ownBlock∧some k_≠((.slice Ao79 t1203.length co79):Value).ownBlock∧some k_≠((.slice Ao89 t1215.length co89):Value).ownBlock∧some k_≠((.slice Ao149 t1243.length co149):Value).ownBlock) (.slice Ao114 t1228.length co114) t1228)∧Aside0 (Kd.R (Kd.int .i64) 3 wc w.heap.size (fun k_=>some k_≠(v1248:Value).ownBlock∧some k_≠((.slice Ao11 t1167.length co11):Value).ownBlock∧some k_≠((.slice Ao71 t1193.length co71):Value).ownBlock∧some k_≠((.slice Ao79 t1203.length co79):Value).ownBlock∧some k_≠((.slice Ao89 t1215.length co89):Value).ownBlock∧some k_≠((.slice Ao114 t1228.length co114):Value).ownBlock) (.slice Ao149 t1243.length co149) t1243)∧Aside0 (wc.heap[gb1171]? =some (.cells #[(.slice Ao11 t1167.length co11)] 26 (0,0)))∧Aside0 (wc.heap[gb1198]? =some (.cells #[(.slice Ao71 t1193.length co71)] 26 (0,0)))∧Aside0 (wc.heap[gb1210]? =some (.cells #[(.slice Ao79 t1203.length co79)] 26 (0,0)))∧Aside0 (wc.heap[gb1218]? =some (.cells #[(.slice Ao89 t1215.length co89)] 26 (0,0)))∧Aside0 (wc.heap[gb1232]? =some (.cells #[(.slice Ao114 t1228.length co114)] 26 (0,0)))∧Aside0 (wc.heap[gb1246]? =some (.cells #[(.slice Ao149 t1243.length co149)] 26 (0,0)))∧Aside0 (Below w.heap.size w wc))
               case first=>as_aux_lemma=>
                have H:=HC146.out;clear HC146
                by_cases c159:(t1250 !=t1254)=true
                ·
                 rw [if_pos c159] at H;have c159b0:(t1250 !=t1254)=true:=c159
                 (try (have c159b1:decide (t1250=t1254)=false:=by simpa using c159))
                 (try (have c159b2:(t1250==t1254)=false:=by simpa using c159))
                 (try (have c159b3: ¬ (t1250=t1254):=by simpa using c159))
                 clear c159
                 (first|rw [c159b0] |(simp only [Qcq,Qd6];rw [c159b0])|skip)
                 have H':=Aside0.mk H;clear H;go_wp2
                 go_meet
                 case rel=>exact ⟨_,(true),(by first|rfl|(simp;done)|(simp [*];done)),H',⟨by have:=HJ7.out;have:=HJ17.out;have:=HJ67.out;have:=HJ110.out;have:=HJ131.out;first|omega|exact Nat.le_refl _⟩,⟨Kd.R_mono (uR HO1249) (fun _ hk=>⟨hk.1.1.1.1.1.1.2,⟨hk.1.1.1.1.1.2,⟨hk.1.1.1.1.2,⟨hk.1.1.1.2,⟨hk.1.1.2,hk.1.2⟩⟩⟩⟩⟩)⟩,⟨Kd.R_mono (uR HO_1172000) (fun _ hk=>⟨hk.1.2,⟨hk.1.1.1.1,⟨hk.1.1.1.2.1,⟨hk.1.1.1.2.2.1,⟨hk.1.1.1.2.2.2,hk.1.1.2⟩⟩⟩⟩⟩)⟩,⟨Kd.R_mono (uR HO_1199000) (fun _ hk=>⟨hk.1.2,⟨hk.1.1.1.1,⟨hk.1.1.1.2.1,⟨hk.1.1.1.2.2.1,⟨hk.1.1.1.2.2.2,hk.1.1.2⟩⟩⟩⟩⟩)⟩,⟨Kd.R_mono (uR HO_1211000) (fun _ hk=>⟨hk.1.2,⟨hk.1.1.1.1,⟨hk.1.1.1.2.1,⟨hk.1.1.1.2.2.1,⟨hk.1.1.1.2.2.2,hk.1.1.2⟩⟩⟩⟩⟩)⟩,⟨Kd.R_mono (uR HO_1219000) (fun _ hk=>⟨hk.1.2,⟨hk.1.1.1.1,⟨hk.1.1.1.2.1,⟨hk.1.1.1.2.2.1,⟨hk.1.1.1.2.2.2,hk.1.1.2⟩⟩⟩⟩⟩)⟩,⟨Kd.R_mono (uR HO_1233000) (fun _ hk=>⟨hk.1.2,⟨hk.1.1.1.1,⟨hk.1.1.1.2.1,⟨hk.1.1.1.2.2.1,⟨hk.1.1.1.2.2.2,hk.1.1.2⟩⟩⟩⟩⟩)⟩,⟨Kd.R_mono (uR HO1245) (fun _ hk=>⟨hk.1.2,⟨hk.1.1.1.1.1.1.2,⟨hk.1.1.1.1.1.2,⟨hk.1.1.1.1.2,⟨hk.1.1.1.2,hk.1.1.2⟩⟩⟩⟩⟩)⟩,⟨uK BK1171⟩,⟨uK BK1198⟩,⟨uK BK1210⟩,⟨uK BK1218⟩,⟨uK BK1232⟩,⟨uK BK1246⟩,⟨(vB HB)⟩⟩
                ·
                 rw [if_neg c159] at H;have c159b0:(t1250 !=t1254)=false:=by simpa using c159
                 (try (have c159b1:decide (t1250=t1254)=true:=by simpa using c159))
                 (try (have c159b2:(t1250==t1254)=true:=by simpa using c159))
                 clear c159
                 (first|rw [c159b0] |(simp only [Qcq,Qd6];rw [c159b0])|skip)
                 obtain ⟨t1255,A160,H⟩:=bs H;(try dsimp only at H)
                 have H':=Aside0.mk H;clear H;obtain ⟨Ao161,co161,eo161⟩:=Kd.R_slice HO1249.out;subst eo161;obtain ⟨Ao162,co162,eo162⟩:=Kd.R_slice HO1253.out;subst eo162;go_wp2_with (first|(go_at_call 22;(with_reducible refine (Qcn.calls kj131 _ _ t1247 _ _ t1251 t1255 _ (uE HO1249) ?side2 (uE HO1253) ?side4 A160.out).mono ?_);(case side2=>exact (Kd.R_reads' HO1249.out).2.1);(case side4=>exact (Kd.R_reads' HO1253.out).2.1);rintro e w' ⟨rfl,⟨nd,rfl⟩⟩))
                 go_meet
                 case rel=>exact ⟨_,(!t1255),(by first|rfl|(simp;done)|(simp [*];done)),H',⟨by have:=HJ7.out;have:=HJ17.out;have:=HJ67.out;have:=HJ110.out;have:=HJ131.out;first|omega|exact Nat.le_refl _⟩,⟨Kd.R_mono (uR HO1249) (fun _ hk=>⟨hk.1.1.1.1.1.1.2,⟨hk.1.1.1.1.1.2,⟨hk.1.1.1.1.2,⟨hk.1.1.1.2,⟨hk.1.1.2,hk.1.2⟩⟩⟩⟩⟩)⟩,⟨Kd.R_mono (uR HO_1172000) (fun _ hk=>⟨hk.1.2,⟨hk.1.1.1.1,⟨hk.1.1.1.2.1,⟨hk.1.1.1.2.2.1,⟨hk.1.1.1.2.2.2,hk.1.1.2⟩⟩⟩⟩⟩)⟩,⟨Kd.R_mono (uR HO_1199000) (fun _ hk=>⟨hk.1.2,⟨hk.1.1.1.1,⟨hk.1.1.1.2.1,⟨hk.1.1.1.2.2.1,⟨hk.1.1.1.2.2.2,hk.1.1.2⟩⟩⟩⟩⟩)⟩,⟨Kd.R_mono (uR HO_1211000) (fun _ hk=>⟨hk.1.2,⟨hk.1.1.1.1,⟨hk.1.1.1.2.1,⟨hk.1.1.1.2.2.1,⟨hk.1.1.1.2.2.2,hk.1.1.2⟩⟩⟩⟩⟩)⟩,⟨Kd.R_mono (uR HO_1219000) (fun _ hk=>⟨hk.1.2,⟨hk.1.1.1.1,⟨hk.1.1.1.2.1,⟨hk.1.1.1.2.2.1,⟨hk.1.1.1.2.2.2,hk.1.1.2⟩⟩⟩⟩⟩)⟩,⟨Kd.R_mono (uR HO_1233000) (fun _ hk=>⟨hk.1.2,⟨hk.1.1.1.1,⟨hk.1.1.1.2.1,⟨hk.1.1.1.2.2.1,⟨hk.1.1.1.2.2.2,hk.1.1.2⟩⟩⟩⟩⟩)⟩,⟨Kd.R_mono (uR HO1245) (fun _ hk=>⟨hk.1.2,⟨hk.1.1.1.1.1.1.2,⟨hk.1.1.1.1.1.2,⟨hk.1.1.1.1.2,⟨hk.1.1.1.2,hk.1.1.2⟩⟩⟩⟩⟩)⟩,⟨uK BK1171⟩,⟨uK BK1198⟩,⟨uK BK1210⟩,⟨uK BK1218⟩,⟨uK BK1232⟩,⟨uK BK1246⟩,⟨(vB HB)⟩⟩
               case rest=>as_aux_lemma=>
                clear HC146
                try clear hcz155_0 hcz157_0 hfz155_0 hfz157_0
                obtain ⟨kq,x358_145,rfl,HA,HJ145,HO_58,HO_1172000,HO_1199000,HO_1211000,HO_1219000,HO_1233000,HO_1247000,BK1171,BK1198,BK1210,BK1218,BK1232,BK1246,HB⟩:=hcut;cases kq with
                |zero=>exact absurd HA.out (by simp [laws_FnRanksMakeRowmotion.j7])
                |succ kj145=>
                 have H:=HA.out;clear HA;simp only [laws_FnRanksMakeRowmotion.j7] at H
                 by_cases c163:x358_145=true
                 ·
                  subst c163;rw [if_pos rfl] at H;exact absurd H (by simp)
                 ·
                  replace c163:=Bool.eq_false_iff.mpr c163;subst c163;rw [if_neg (show ¬ (false=true) by decide)] at H
                  by_cases c164:t1250=true
                  ·
                   subst c164;rw [if_pos rfl] at H;obtain ⟨⟨t1256,t1259⟩,A165,H⟩:=bs H;(try dsimp only at H)
                   by_cases c166:t1259=true
                   ·
                    subst c166;rw [if_pos rfl] at H;obtain ⟨t1260,A167,H⟩:=bs H;(try dsimp only at H)
                    obtain rfl:=Option.some.inj H;have hnb168:=NB1246_1171.out;have hnc168:=NB1171_1246.out;have hnb169:=NB1246_1198.out;have hnc169:=NB1198_1246.out;have hnb170:=NB1246_1210.out;have hnc170:=NB1210_1246.out;have hnb171:=NB1246_1218.out;have hnc171:=NB1218_1246.out;have hnb172:=NB1246_1232.out;have hnc172:=NB1232_1246.out;have hcz173_0:=bC BK1246;have hfz173_0:=Qf BK1246.out 0;go_wp2_with (first|((with_reducible refine gt ?_);refine gA (some 362) Tryz.func44 #[.agg #[.slice Ao149 t1243.length co149]] ?_;(with_reducible refine (Qdm.calls kj145 _ _ t1243 t1256 true _ (uE HO_1247000) ?side2 A165.out).mono ?_);(case side2=>exact (Kd.R_reads' HO_1247000.out).2.1);rintro e w174 ⟨v1257,rfl,ho0,hb⟩;refine ⟨_,rfl,?_⟩;have HO1258:=Aside0.mk (Kd.R_lower (Kd.R_new' (Kd.R_new' (Kd.R_new' (Kd.R_new' (Kd.R_new' (Kd.R_new' (Kd.R_new' ho0 (Kd.R_lt (uR HO_58))) (Kd.R_lt (uR HO_1172000))) (Kd.R_lt (uR HO_1199000))) (Kd.R_lt (uR HO_1211000))) (Kd.R_lt (uR HO_1219000))) (Kd.R_lt (uR HO_1233000))) (Kd.R_lt (uR HO_1247000))) (Qj (vB HB)));replace HO_58:=Aside0.mk (Kd.R_elder' (uR HO_58) (Kd.R_base ho0) hb);replace HO_1172000:=Aside0.mk (Kd.R_elder' (uR HO_1172000) (Kd.R_base ho0) hb);replace HO_1199000:=Aside0.mk (Kd.R_elder' (uR HO_1199000) (Kd.R_base ho0) hb);replace HO_1211000:=Aside0.mk (Kd.R_elder' (uR HO_1211000) (Kd.R_base ho0) hb);replace HO_1219000:=Aside0.mk (Kd.R_elder' (uR HO_1219000) (Kd.R_base ho0) hb);replace HO_1233000:=Aside0.mk (Kd.R_elder' (uR HO_1233000) (Kd.R_base ho0) hb);replace HO_1247000:=Aside0.mk (Kd.R_elder' (uR HO_1247000) (Kd.R_base ho0) hb);replace BK1171:=Aside0.mk (Qc (uK BK1171) hb);replace BK1198:=Aside0.mk (Qc (uK BK1198) hb);replace BK1210:=Aside0.mk (Qc (uK BK1210) hb);replace BK1218:=Aside0.mk (Qc (uK BK1218) hb);replace BK1232:=Aside0.mk (Qc (uK BK1232) hb);replace BK1246:=Aside0.mk (Qc (uK BK1246) hb);replace HB:=Aside0.mk (Qb (vB HB) hb);(try clear hb ho0);obtain ⟨Ao175,co175,eo175⟩:=Kd.R_slice HO1258.out;subst eo175;obtain ⟨Ao176,co176,eo176⟩:=Kd.R_slice HO_58.out;subst eo176)|(go_at_call 22;(with_reducible refine (Qcn.calls kj145 _ _ t1256 _ _ t1247 t1260 _ (uE HO1258) ?side2 (uE HO_58) ?side4 A167.out).mono ?_);(case side2=>exact (Kd.R_reads' HO1258.out).2.1);(case side4=>exact (Kd.R_reads' HO_58.out).2.1);rintro e w' ⟨rfl,⟨nd,rfl⟩⟩))
                    go_ret
                    exact ⟨by first|rfl|(simp [Qd,Qe] <;>rfl)|(simp [*,Qd,Qe] <;>rfl),(vB HB)⟩
                   ·
                    replace c166:=Bool.eq_false_iff.mpr c166;subst c166;rw [if_neg (show ¬ (false=true) by decide)] at H;exact absurd H (by simp)
                  ·
                   replace c164:=Bool.eq_false_iff.mpr c164;subst c164;rw [if_neg (show ¬ (false=true) by decide)] at H;obtain rfl:=Option.some.inj H;go_wp2
                   go_ret
                   exact ⟨by first|rfl|(simp [Qd,Qe] <;>rfl)|(simp [*,Qd,Qe] <;>rfl),(vB HB)⟩
def laws_FnRanksMakeRowmotion.Pure : Prop := ∀ (l0 : List Int) (l1 : List Int), l0.length ≤ maxLen → l0.length * 1 ≤ 140737488351232 → (∀ x ∈ l0, (Lit.int .u8 x).wf = true) → l1.length ≤ maxLen → l1.length * 1 ≤ 140737488351232 → (∀ x ∈ l1, (Lit.int .u8 x).wf = true) → ∃ k, laws_FnRanksMakeRowmotion.f k l0 l1 = some true
theorem laws_FnRanksMakeRowmotion.walk (P : laws_FnRanksMakeRowmotion.Pure) (a0 : Option Addr) (len0 cap0 : Nat) (z0 : List Int) (a1 : Option Addr) (len1 cap1 : Nat) (z1 : List Int) (w : World) (w0 : (a0 = none ∧ len0 = 0 ∧ cap0 = 0 ∧ z0 = []) ∨ ∃ x, a0 = some x ∧ len0 ≤ cap0 ∧ cap0 ≤ maxLen ∧ z0.length = cap0 ∧ (∀ i, i < z0.length → w.cell? (x.add i) = some (.int .u8 (z0.getD i 0))) ∧ ∀ n ∈ z0, (Lit.int .u8 n).wf = true) (y0 : len0 * 1 ≤ 140737488351232) (w1 : (a1 = none ∧ len1 = 0 ∧ cap1 = 0 ∧ z1 = []) ∨ ∃ x, a1 = some x ∧ len1 ≤ cap1 ∧ cap1 ≤ maxLen ∧ z1.length = cap1 ∧ (∀ i, i < z1.length → w.cell? (x.add i) = some (.int .u8 (z1.getD i 0))) ∧ ∀ n ∈ z1, (Lit.int .u8 n).wf = true) (y1 : len1 * 1 ≤ 140737488351232) :
 Calls Tryz.prog 6 #[.slice a0 len0 cap0, .slice a1 len1 cap1] w fun e w'=>e= .returned (.bool true)∧Below w.heap.size w w':=by
 obtain ⟨l0,rfl,hr0,hm0,hw0,hc0⟩:=Qdj.ofRowC w0;obtain ⟨l1,rfl,hr1,hm1,hw1,hc1⟩:=Qdj.ofRowC w1;obtain ⟨k,h⟩:=P l0 l1 hm0 y0 hw0 hm1 y1 hw1;refine (laws_FnRanksMakeRowmotion.calls k _ _ l0 _ _ l1 true w (Kd.C_of_reads (d:=(0:Int)) (h1:=fun _=>rfl) hr0) hc0 (Kd.C_of_reads (d:=(0:Int)) (h1:=fun _=>rfl) hr1) hc1 h).mono ?_;rintro e w' ⟨rfl,hd⟩;exact ⟨rfl,hd⟩
end Go.Proofs.YtkgngggppcmpfaaGreat.L
end
section
namespace Go.Proofs.YtkgngggppcmpfaaGreat.M
open Go.RowKit Go.Proofs.YtkgngggppcmpfaaGreatW.PrintWords Go.Proofs.YtkgngggppcmpfaaGreatW.PrintLast Go.Proofs.YtkgngggppcmpfaaGreatW.PrintMore
theorem Qdt {x : Int} (h0 : -9223372036854775808 ≤ x) (h1 : x ≤ 9223372036854775807) : wrap64 x = x := by unfold wrap64; omega
theorem Qb1 {i : Nat} (h : i < 9223372036854775807) : wrap64 ((i : Int) + 1) = ((i + 1 : Nat) : Int) := by unfold wrap64; omega
theorem Qgj {l : List Int} {i : Nat} (h : i < l.length) : rd l (i : Int) = l[i] := by simp [rd, List.getD_eq_getElem?_getD, h]
theorem Qgz {α : Type} {g : Nat → Option α} {r r' : α} (h : Ev g r) (h' : Ev g r') : r = r' := by
 obtain ⟨K, h⟩ := h; obtain ⟨K', h'⟩ := h'
 have a := h (max K K') (by omega); have b := h' (max K K') (by omega)
 exact Option.some.inj (a.symm.trans b)
theorem Qdb {α : Type} {c : Prop} [Decidable c] {f g : Nat → Option α} {r : α} (h1 : c → Ev f r) (h2 : ¬ c → Ev g r) : Ev (fun k => if c then f k else g k) r := by
 by_cases h : c
 ·
  obtain ⟨K, hK⟩ := h1 h; exact ⟨K, fun k hk => by simp only [if_pos h]; exact hK k hk⟩
 ·
  obtain ⟨K, hK⟩ := h2 h; exact ⟨K, fun k hk => by simp only [if_neg h]; exact hK k hk⟩
theorem Qh {α : Type} {c : Prop} [Decidable c] {f g : Nat → Option α} {r : α} (h : c) (h1 : Ev f r) : Ev (fun k => if c then f k else g k) r := Qdb (fun _ => h1) (fun h2 => absurd h h2)
theorem Qbh {α : Type} {c : Prop} [Decidable c] {f g : Nat → Option α} {r : α} (h : ¬ c) (h1 : Ev g r) : Ev (fun k => if c then f k else g k) r := Qdb (fun h2 => absurd h2 h) (fun _ => h1)
theorem Qbp {α β : Type} {x : Option α} {a : α} {f : Nat → α → Option β} {r : β} (h : x = some a) (k : Ev (fun n => f n a) r) : Ev (fun n => x.bind (f n)) r := by subst h; simpa using k
def inB (x lo hi : Int) : Bool := decide (lo ≤ x) && decide (x ≤ hi)
theorem Qe3 {x lo hi : Int} : inB x lo hi = true ↔ lo ≤ x ∧ x ≤ hi := by simp [inB]
end Go.Proofs.YtkgngggppcmpfaaGreat.M
end
section
namespace Go.Proofs.YtkgngggppcmpfaaGreat.M
set_option linter.unusedVariables false
structure Sys {α : Type} (t : α → Nat → α) (I : α → Prop) (H : Nat) : Prop where
 keep : ∀ s r, I s → r < H → I (t s r)
 inv : ∀ s r, I s → r < H → t (t s r) r = s
 com : ∀ s i j, I s → i < H → j < H → i + 2 ≤ j → t (t s i) j = t (t s j) i
def Wq {α : Type} (t : α → Nat → α) (I : α → Prop) (u v : List Nat) : Prop := ∀ s, I s → u.foldl t s = v.foldl t s
def In (H : Nat) (u : List Nat) : Prop := ∀ x ∈ u, x < H
def Far (u v : List Nat) : Prop := ∀ x ∈ u, ∀ y ∈ v, x + 2 ≤ y ∨ y + 2 ≤ x
theorem In.app {H : Nat} {u v : List Nat} (h : In H u) (h' : In H v) : In H (u ++ v) := fun x hx => (List.mem_append.mp hx).elim (h x) (h' x)
theorem In.rev {H : Nat} {u : List Nat} (h : In H u) : In H u.reverse := fun x hx => h x (List.mem_reverse.mp hx)
theorem In.mono {H K : Nat} {u : List Nat} (h : In H u) (hk : H ≤ K) : In K u := fun x hx => Nat.lt_of_lt_of_le (h x hx) hk
section
variable {α : Type} {t : α → Nat → α} {I : α → Prop} {H K : Nat}
theorem Sys.foldI (S : Sys t I H) : ∀ (u : List Nat) (s : α), In H u → I s → I (u.foldl t s)
 | [], _, _, h => h
 | x :: u, s, hu, h => S.foldI u _ (fun y hy => hu y (List.mem_cons_of_mem _ hy)) (S.keep s x h (hu x List.mem_cons_self))
theorem Wq.rfl' (u : List Nat) : Wq t I u u := fun _ _ => rfl
theorem Wq.symm {u v : List Nat} (h : Wq t I u v) : Wq t I v u := fun s hs => (h s hs).symm
theorem Wq.trans {u v w : List Nat} (h : Wq t I u v) (h' : Wq t I v w) : Wq t I u w := fun s hs => (h s hs).trans (h' s hs)
theorem Sys.app (S : Sys t I H) {u u' v v' : List Nat} (hu : In H u) (h : Wq t I u u') (h' : Wq t I v v') : Wq t I (u ++ v) (u' ++ v') := fun s hs => by
 rw [List.foldl_append, List.foldl_append, h' _ (S.foldI u s hu hs), h s hs]
theorem Sys.left (S : Sys t I H) {v v' : List Nat} (u : List Nat) (hu : In H u) (h' : Wq t I v v') : Wq t I (u ++ v) (u ++ v') := S.app hu (Wq.rfl' u) h'
theorem Wq.right {u u' : List Nat} (h : Wq t I u u') (v : List Nat) : Wq t I (u ++ v) (u' ++ v) := fun s hs => by
 rw [List.foldl_append, List.foldl_append, h s hs]
theorem Sys.cancel (S : Sys t I H) : ∀ (u : List Nat), In H u → Wq t I (u ++ u.reverse) []
 | [], _ => Wq.rfl' _
 | x :: u, hu => fun s hs => by
  have hx := hu x List.mem_cons_self
  have hu' : In H u := fun y hy => hu y (List.mem_cons_of_mem _ hy)
  have ih := S.cancel u hu' (t s x) (S.keep s x hs hx)
  rw [List.reverse_cons, ← List.append_assoc, List.foldl_append, List.cons_append]
  show t ((u ++ u.reverse).foldl t (t s x)) x = s
  rw [ih]
  exact S.inv s x hs hx
theorem Sys.cancel' (S : Sys t I H) (u : List Nat) (hu : In H u) : Wq t I (u.reverse ++ u) [] := by
 have h := S.cancel u.reverse hu.rev
 rwa [List.reverse_reverse] at h
theorem Sys.swap1 (S : Sys t I H) {i : Nat} (hi : i < H) : ∀ (v : List Nat), In H v → Far [i] v → Wq t I (i :: v) (v ++ [i])
 | [], _, _ => Wq.rfl' _
 | y :: v, hv, hf => fun s hs => by
  have hy := hv y List.mem_cons_self
  have hv' : In H v := fun z hz => hv z (List.mem_cons_of_mem _ hz)
  have ih := S.swap1 hi v hv' (fun a ha b hb => hf a ha b (List.mem_cons_of_mem _ hb)) (t s y) (S.keep s y hs hy)
  have c : t (t s i) y = t (t s y) i := by
   rcases hf i List.mem_cons_self y List.mem_cons_self with h | h
   ·
    exact S.com s i y hs hi hy h
   ·
    exact (S.com s y i hs hy hi h).symm
  rw [List.cons_append, List.foldl_cons, List.foldl_cons, List.foldl_cons, c]
  exact ih
theorem Sys.swap (S : Sys t I H) : ∀ (u v : List Nat), In H u → In H v → Far u v → Wq t I (u ++ v) (v ++ u)
 | [], v, _, _, _ => by rw [List.nil_append, List.append_nil]; exact Wq.rfl' _
 | x :: u, v, hu, hv, hf => by
  have hx := hu x List.mem_cons_self
  have hu' : In H u := fun z hz => hu z (List.mem_cons_of_mem _ hz)
  have ih := S.swap u v hu' hv fun a ha b hb => hf a (List.mem_cons_of_mem _ ha) b hb
  have h1 : Wq t I ([x] ++ (u ++ v)) ([x] ++ (v ++ u)) := S.left [x] (fun z hz => by rw [List.mem_singleton] at hz; omega) ih
  have h2 := (S.swap1 hx v hv fun a ha b hb => hf a (by rw [List.mem_singleton] at ha; subst ha; exact List.mem_cons_self) b hb).right u
  have e : v ++ [x] ++ u = v ++ (x :: u) := by simp
  rw [e] at h2
  exact h1.trans h2
def Bk (i d : Nat) : List Nat := (List.range' i d).reverse
theorem Bk_in {i d : Nat} (h : i + d ≤ H) : In H (Bk i d) := fun x hx => by
 rw [Bk, List.mem_reverse, List.mem_range'_1] at hx; omega
def parL (b : Nat) : Nat → List Nat
 | 0 => []
 | r + 1 => if r % 2 = b then parL b r ++ [r] else parL b r
theorem Qhp {b x : Nat} : ∀ {r : Nat}, x ∈ parL b r → x < r ∧ x % 2 = b
 | 0, h => by cases h
 | r + 1, h => by
  rw [parL] at h
  split at h
  ·
   rename_i e
   rw [List.mem_append, List.mem_singleton] at h
   rcases h with h | h
   ·
    have := Qhp h; omega
   ·
    omega
  ·
   have := Qhp h; omega
theorem Sys.conj (S : Sys t I H) : ∀ (n : Nat), n ≤ H → ∃ g, In (n - 1) g ∧ Wq t I (g ++ (parL 0 n ++ parL 1 n) ++ g.reverse) (Bk 0 n)
 | 0, h => ⟨[], (fun x hx => (by cases hx)), Wq.rfl' _⟩
 | n + 1, h => by
  obtain ⟨g, hg, hw⟩ := S.conj n (by omega)
  have hgH : In H g := hg.mono (by omega)
  have hn : In H [n] := fun z hz => by rw [List.mem_singleton] at hz; omega
  have p0 : In H (parL 0 n) := fun x hx => by have := Qhp hx; omega
  have p1 : In H (parL 1 n) := fun x hx => by have := Qhp hx; omega
  have eB : Bk 0 (n + 1) = [n] ++ Bk 0 n := by unfold Bk; rw [List.range'_1_concat]; simp
  have far : Far g [n] := fun x hx y hy => by rw [List.mem_singleton] at hy; have := hg x hx; omega
  by_cases c : n % 2 = 0
  ·
   refine ⟨g, hg.mono (by omega), ?_⟩
   have e : parL 0 (n + 1) ++ parL 1 (n + 1) = parL 0 n ++ [n] ++ parL 1 n := by rw [parL, parL, if_pos c, if_neg (by omega)]
   have s1 : Wq t I (parL 0 n ++ [n]) ([n] ++ parL 0 n) := S.swap _ _ p0 hn fun x hx y hy => by rw [List.mem_singleton] at hy; have := Qhp hx; omega
   have s2 : Wq t I (g ++ [n]) ([n] ++ g) := S.swap _ _ hgH hn far
   rw [e, eB]
   have h1 := (S.left g hgH (s1.right (parL 1 n))).right g.reverse
   have h2 := s2.right (parL 0 n ++ parL 1 n ++ g.reverse)
   have h3 := S.left [n] hn hw
   have e1 : g ++ ([n] ++ parL 0 n ++ parL 1 n) ++ g.reverse = g ++ [n] ++ (parL 0 n ++ parL 1 n ++ g.reverse) := by simp
   have e2 : [n] ++ g ++ (parL 0 n ++ parL 1 n ++ g.reverse) = [n] ++ (g ++ (parL 0 n ++ parL 1 n) ++ g.reverse) := by simp
   rw [e1] at h1
   rw [e2] at h2
   exact (h1.trans h2).trans h3
  ·
   have bB : In n (Bk 0 n) := Bk_in (by omega)
   have bH : In H (Bk 0 n) := bB.mono (by omega)
   refine ⟨(Bk 0 n).reverse ++ g, bB.rev.app (hg.mono (by omega)), ?_⟩
   have e : parL 0 (n + 1) ++ parL 1 (n + 1) = parL 0 n ++ parL 1 n ++ [n] := by rw [parL, parL, if_neg c, if_pos (by omega)]; simp
   have grH : In H g.reverse := hgH.rev
   have s2 : Wq t I ([n] ++ g.reverse) (g.reverse ++ [n]) := S.swap _ _ hn grH fun x hx y hy => (far y (List.mem_reverse.mp hy) x hx).elim .inr .inl
   rw [e, eB]
   have h1 := S.left _ ((bH.rev.app hgH).app (p0.app p1)) (s2.right (Bk 0 n))
   have h2 := S.left _ bH.rev (hw.right ([n] ++ Bk 0 n))
   have h3 := (S.cancel' _ bH).right ([n] ++ Bk 0 n)
   rw [List.reverse_append, List.reverse_reverse]
   have e1 : (Bk 0 n).reverse ++ g ++ (parL 0 n ++ parL 1 n ++ [n]) ++ (g.reverse ++ Bk 0 n) = (Bk 0 n).reverse ++ g ++ (parL 0 n ++ parL 1 n) ++ ([n] ++ g.reverse ++ Bk 0 n) := by simp
   have e2 : (Bk 0 n).reverse ++ g ++ (parL 0 n ++ parL 1 n) ++ (g.reverse ++ [n] ++ Bk 0 n) = (Bk 0 n).reverse ++ (g ++ (parL 0 n ++ parL 1 n) ++ g.reverse ++ ([n] ++ Bk 0 n)) := by simp
   have e3 : (Bk 0 n).reverse ++ (Bk 0 n ++ ([n] ++ Bk 0 n)) = (Bk 0 n).reverse ++ Bk 0 n ++ ([n] ++ Bk 0 n) := by simp
   rw [e1]
   rw [e2] at h1
   rw [e3] at h2
   exact (h1.trans h2).trans h3
end
end Go.Proofs.YtkgngggppcmpfaaGreat.M
end
section
namespace Go.Proofs.YtkgngggppcmpfaaGreat.L
open Go.RowKit Go.Proofs.YtkgngggppcmpfaaGreatW.PrintWords Go.Proofs.YtkgngggppcmpfaaGreatW.PrintLast Go.Proofs.YtkgngggppcmpfaaGreatW.PrintMore Go.Proofs.YtkgngggppcmpfaaGreat.X
attribute [local go_sem] Q2 Q4 Qbb Qbc Qt Qu Q3 Q5
set_option linter.unusedVariables false
set_option linter.unusedSimpArgs false
end Go.Proofs.YtkgngggppcmpfaaGreat.L
end
section
namespace Go.Proofs.YtkgngggppcmpfaaGreat.M
open Go.RowKit Go.Proofs.YtkgngggppcmpfaaGreatW.PrintWords Go.Proofs.YtkgngggppcmpfaaGreatW.PrintLast Go.Proofs.YtkgngggppcmpfaaGreatW.PrintMore
def sd (a b : Nat) : Nat := a ^^^ (a &&& b)
theorem Qhs (a b i : Nat) : (sd a b).testBit i = (a.testBit i && !b.testBit i) := by
 unfold sd; rw [Nat.testBit_xor, Nat.testBit_and]; cases a.testBit i <;> cases b.testBit i <;> rfl
theorem Qmh {a b : Nat} : sd a b = 0 ↔ ∀ i, a.testBit i = true → b.testBit i = true := by
 constructor
 ·
  intro h i ha
  have := Qhs a b i
  rw [h, Nat.zero_testBit, ha] at this
  cases hb : b.testBit i
  ·
   rw [hb] at this; simp at this
  ·
   rfl
 ·
  intro h
  apply Nat.eq_of_testBit_eq
  intro i
  rw [Qhs, Nat.zero_testBit]
  cases ha : a.testBit i
  ·
   rfl
  ·
   rw [h i ha]; rfl
theorem sd_le (a b : Nat) : sd a b ≤ a := by
 have e : sd a b = sd a b &&& a := by
  apply Nat.eq_of_testBit_eq
  intro i
  rw [Nat.testBit_and, Qhs]
  cases a.testBit i <;> cases b.testBit i <;> rfl
 rw [e]; exact Nat.and_le_right
theorem Qkg {a : Nat} (b : Nat) {n : Nat} (h : a < 2 ^ n) : sd a b < 2 ^ n := Nat.lt_of_le_of_lt (sd_le a b) h
theorem Qgu {x : Nat} (h : x < 2 ^ 63) : IntKind.i64.wrap (x : Int) = (x : Int) := by
 rw [IntKind.wrap_i64]
 have : (x : Int) < 9223372036854775808 := by
  have h2 : (2 : Nat) ^ 63 = 9223372036854775808 := by decide
  omega
 omega
theorem Qfl {a : Nat} (h : a < 2 ^ 63) : (BitVec.ofInt IntKind.i64.bits (a : Int)).toNat = a := by
 have e : IntKind.i64.bits = 64 := rfl
 rw [e, BitVec.ofInt_natCast, BitVec.toNat_ofNat]
 exact Nat.mod_eq_of_lt (Nat.lt_of_lt_of_le h (by decide))
theorem Qf9 {a b : Nat} (ha : a < 2 ^ 63) (hb : b < 2 ^ 63) : Go.bits .or .i64 (a : Int) (b : Int) = ((a ||| b : Nat) : Int) := by
 simp only [Go.bits, BitVec.toNat_or, Qfl ha, Qfl hb]
 exact Qgu (Nat.or_lt_two_pow ha hb)
theorem Qkx {a b : Nat} (ha : a < 2 ^ 63) (hb : b < 2 ^ 63) : Go.bits .and .i64 (a : Int) (b : Int) = ((a &&& b : Nat) : Int) := by
 simp only [Go.bits, BitVec.toNat_and, Qfl ha, Qfl hb]
 exact Qgu (Nat.and_lt_two_pow _ hb)
theorem Qnf {a b : Nat} (ha : a < 2 ^ 63) (hb : b < 2 ^ 63) : Go.bits .xor .i64 (a : Int) (b : Int) = ((a ^^^ b : Nat) : Int) := by
 simp only [Go.bits, BitVec.toNat_xor, Qfl ha, Qfl hb]
 exact Qgu (Nat.xor_lt_two_pow ha hb)
theorem Qfu {a b : Nat} (ha : a < 2 ^ 63) (hb : b < 2 ^ 63) : Go.bits .andNot .i64 (a : Int) (b : Int) = ((sd a b : Nat) : Int) := by
 have e : (BitVec.ofInt IntKind.i64.bits (a : Int) &&& ~~~(BitVec.ofInt IntKind.i64.bits (b : Int))).toNat = sd a b := by
  apply Nat.eq_of_testBit_eq
  intro i
  rw [BitVec.toNat_and, Nat.testBit_and, Qfl ha, Qhs]
  cases hai : a.testBit i
  ·
   rfl
  ·
   have hi : i < 64 := by
    apply Nat.lt_of_not_le; intro h
    have : a < 2 ^ i := Nat.lt_of_lt_of_le ha (Nat.pow_le_pow_right (by decide) (by omega))
    rw [Nat.testBit_lt_two_pow this] at hai; cases hai
   have e2 : (~~~(BitVec.ofInt IntKind.i64.bits (b : Int))).toNat.testBit i = (~~~(BitVec.ofInt IntKind.i64.bits (b : Int))).getLsbD i := rfl
   have e3 : (BitVec.ofInt IntKind.i64.bits (b : Int)).getLsbD i = b.testBit i := by
    show (BitVec.ofInt IntKind.i64.bits (b : Int)).toNat.testBit i = _
    rw [Qfl hb]
   rw [e2, BitVec.getLsbD_not, e3]
   have : decide (i < IntKind.i64.bits) = true := decide_eq_true hi
   rw [this, Bool.true_and]
 simp only [Go.bits]
 rw [e]
 exact Qgu (Qkg b ha)
theorem Qf3 {i : Nat} (h : i < 63) : shl .i64 1 (i : Int) = ((2 ^ i : Nat) : Int) := by
 unfold shl
 have e : min (i : Int).toNat IntKind.i64.bits = i := by
  have : IntKind.i64.bits = 64 := rfl
  rw [this, Int.toNat_natCast]; omega
 rw [e, Int.one_mul]
 have : ((2 : Int) ^ i) = ((2 ^ i : Nat) : Int) := by simp
 rw [this]
 exact Qgu (Nat.pow_lt_pow_right (by decide) h)
theorem Qht {i : Nat} (h : i < 62) : wrap64 (shl .i64 1 (i : Int) - 1) = ((2 ^ i - 1 : Nat) : Int) := by
 rw [Qf3 (by omega)]
 have h1 : 0 < 2 ^ i := Nat.two_pow_pos i
 have h2 : 2 ^ i ≤ 2 ^ 62 := Nat.pow_le_pow_right (by decide) (by omega)
 have h3 : (2 : Nat) ^ 62 = 4611686018427387904 := by decide
 rw [Qdt (by omega) (by omega)]; omega
theorem Qpc {a i : Nat} (h : i ≤ 64) : shr .i64 (a : Int) (i : Int) = ((a / 2 ^ i : Nat) : Int) := by
 unfold shr
 have e : min (i : Int).toNat IntKind.i64.bits = i := by
  have : IntKind.i64.bits = 64 := rfl
  rw [this, Int.toNat_natCast]; omega
 rw [e]; simp
theorem Qoy {a i : Nat} (h : i ≤ 64) : (Int.tmod (shr .i64 (a : Int) (i : Int)) 2 == 1) = a.testBit i := by
 rw [Qpc h]
 have : Int.tmod ((a / 2 ^ i : Nat) : Int) 2 = ((a / 2 ^ i % 2 : Nat) : Int) := by
  rw [show (2 : Int) = ((2 : Nat) : Int) from rfl, Int.ofNat_tmod]
 rw [this, Nat.testBit_eq_decide_div_mod_eq, Bool.eq_iff_iff, beq_iff_eq, decide_eq_true_eq]
 omega
theorem Qkw {a i : Nat} (h : i ≤ 64) : (Int.tmod (shr .i64 (a : Int) (i : Int)) 2 = 1) ↔ a.testBit i = true := by
 rw [← Qoy h]; simp
theorem bit_and {a i : Nat} (ha : a < 2 ^ 63) (h : i ≤ 64) : (Go.bits .and .i64 (shr .i64 (a : Int) (i : Int)) 1 == 1) = a.testBit i := by
 rw [Qpc h, show (1 : Int) = ((1 : Nat) : Int) from rfl, Qkx (Nat.lt_of_le_of_lt (Nat.div_le_self _ _) ha) (by decide), Nat.and_one_is_mod, Nat.testBit_eq_decide_div_mod_eq, Bool.eq_iff_iff, beq_iff_eq, decide_eq_true_eq]
 omega
theorem Qfp {a i n : Nat} (h : a < 2 ^ n) (hi : a.testBit i = true) : i < n := by
 apply Nat.lt_of_not_le; intro h2
 rw [Nat.testBit_lt_two_pow (Nat.lt_of_lt_of_le h (Nat.pow_le_pow_right (by decide) h2))] at hi; cases hi
theorem lt63 {a n : Nat} (h : a < 2 ^ n) (hn : n ≤ 63) : a < 2 ^ 63 := Nat.lt_of_lt_of_le h (Nat.pow_le_pow_right (by decide) hn)
end Go.Proofs.YtkgngggppcmpfaaGreat.M
end
