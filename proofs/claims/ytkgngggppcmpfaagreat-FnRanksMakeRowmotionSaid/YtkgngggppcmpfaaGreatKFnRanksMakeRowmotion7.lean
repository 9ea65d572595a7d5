/- Laws about the given program: the law FnRanksMakeRowmotion answers true for every input that its row lets in; no condition is added to the given statement. Contracts of the Go functions that it reaches, and the plain proof over lists. -/
import Derived.Test.YtkgngggppcmpfaaGreatWFnRanksMakeRowmotion0
import Derived.Test.YtkgngggppcmpfaaGreatKFnRanksMakeRowmotion0
import Derived.Test.YtkgngggppcmpfaaGreatKFnRanksMakeRowmotion1
import Derived.Test.YtkgngggppcmpfaaGreatKFnRanksMakeRowmotion2
import Derived.Test.YtkgngggppcmpfaaGreatKFnRanksMakeRowmotion3
import Derived.Test.YtkgngggppcmpfaaGreatKFnRanksMakeRowmotion4
import Derived.Test.YtkgngggppcmpfaaGreatKFnRanksMakeRowmotion5
import Derived.Test.YtkgngggppcmpfaaGreatKFnRanksMakeRowmotion6
section
namespace Go.Proofs.YtkgngggppcmpfaaGreat.L
open Go.RowKit Go.Proofs.YtkgngggppcmpfaaGreatW.PrintWords Go.Proofs.YtkgngggppcmpfaaGreatW.PrintLast Go.Proofs.YtkgngggppcmpfaaGreatW.PrintMore Go.Proofs.YtkgngggppcmpfaaGreat.X
attribute [local go_sem] Q2 Q4 Qbb Qbc Qt Qu Q3 Q5
set_option linter.unusedVariables false
set_option linter.unusedSimpArgs false
mutual
def Q1.l0 : Nat → List Int → List Int → Int → Int → List Int → Option (List Int)
 |0,_,_,_,_,_=>none
 |k+1,x3,x8,x9,x10,x1075000=>if x10<x9 then (if 0≤x10 then (if x10<(x8.length:Int) then (Q1.l1 k x3 (rd x8 x10) x8 x9 x10 x1075000) else (none)) else (none)) else (some x3)
def Q1.l1 : Nat → List Int → Int → List Int → Int → Int → List Int → Option (List Int)
 |0,_,_,_,_,_,_=>none
 |k+1,x3,x6,x8,x9,x10,x1075000=>(Qdv.f k x1075000).bind fun t1082=>(if x6≤t1082 then (if x3.length<17592186044416 then (Q1.l1 k (x3++ [x6]) (wrap64 (x6+2)) x8 x9 x10 x1075000) else (none)) else (Q1.l0 k x3 x8 x9 (wrap64 (x10+1)) x1075000))
end
def Q1.f (k : Nat) (l0_0 : List Int) : Option (List Int) := (some (([0, 1] : List Int) : List Int)).bind fun y1078 => (Q1.l0 k (([] : List Int)) y1078 (y1078.length : Int) 0 l0_0)
theorem Q1.mono_l : ∀ k, (∀ y0 y1 y2 y3 y4, LeO (Q1.l0 k y0 y1 y2 y3 y4) (Q1.l0 (k + 1) y0 y1 y2 y3 y4)) ∧ (∀ y0 y1 y2 y3 y4 y5, LeO (Q1.l1 k y0 y1 y2 y3 y4 y5) (Q1.l1 (k + 1) y0 y1 y2 y3 y4 y5))
 |0=>⟨fun _ _ _ _ _ r h=>by simp [Q1.l0] at h,fun _ _ _ _ _ _ r h=>by simp [Q1.l1] at h⟩
 |k+1=>by
  obtain ⟨ih0,ih1⟩:=Q1.mono_l k;refine ⟨?_,?_⟩
  all_goals
   intros
   first|unfold Q1.l0|unfold Q1.l1
   repeat' (with_reducible first|apply ih0|apply ih1|apply Qdv.mono|exact LeO.refl _|exact LeO.none _|refine LeO.ite ?_ ?_|refine LeO.bind ?_ (fun _=> ?_))
theorem Q1.mono : ∀ a0 k, LeO (Q1.f k a0) (Q1.f (k + 1) a0) := by
 intro a0 k;obtain ⟨ih0,ih1⟩:=Q1.mono_l k;unfold Q1.f
 repeat' (with_reducible first|apply ih0|apply ih1|apply Qdv.mono|exact LeO.refl _|exact LeO.none _|refine LeO.ite ?_ ?_|refine LeO.bind ?_ (fun _=> ?_))
set_option maxHeartbeats 8000000 in
set_option maxRecDepth 100000 in
theorem Q1.calls (k : Nat) (A0_0 : Option Addr) (c0_0 : Nat) (l0_0 : List Int) (r : List Int) (w : World) (hr0_0 : Kd.C (Kd.int .i64) w A0_0 l0_0.length l0_0) (hc0_0 : l0_0.length ≤ c0_0) (h : Q1.f k l0_0 = some r) :
 Calls Tryz.prog 237 #[.agg #[.slice A0_0 l0_0.length c0_0]] w fun e w'=> ∃ v0_:Value,e= .returned (v0_)∧Kd.R (Kd.int .i64) 3 w' w.heap.size (fun _=>True) v0_ r∧Below w.heap.size w w':=by
 have hu26:=Tryz.underlying26;have HR0_0:=Aside0.mk hr0_0;have HC0_0:=Aside0.mk hc0_0;clear hr0_0 hc0_0;have HB:=Aside0.mk (Below.refl w.heap.size w);have H:((some (([0,1] :List Int):List Int)).bind fun y1078=>(Q1.l0 k (([] :List Int)) y1078 (y1078.length:Int) 0 l0_0))=some r:=h;clear h;obtain ⟨y1075,hy1075⟩: ∃ y_:List Int,y_=(([] :List Int)):=⟨_,rfl⟩
 replace H:((some (([0,1] :List Int):List Int)).bind fun y1078=>(Q1.l0 k y1075 y1078 (y1078.length:Int) 0 l0_0))=some r:=by first|(rw [hy1075];with_reducible exact H)|(have H2_:=(Option.bind_some _ _).symm.trans H;rw [hy1075];with_reducible exact H2_)|(have H2_:=(Option.bind_some _ _).symm.trans H;with_reducible exact H2_)|with_reducible exact H|(rw [hy1075];exact H)|exact H
 have Ny1075:=Aside0.mk hy1075;clear hy1075;obtain ⟨y1078,hy1078⟩: ∃ y_:List Int,y_=(([0,1] :List Int)):=⟨_,rfl⟩
 replace H:(Q1.l0 k y1075 y1078 (y1078.length:Int) 0 l0_0)=some r:=by first|(rw [hy1078];with_reducible exact H)|(have H2_:=(Option.bind_some _ _).symm.trans H;rw [hy1078];with_reducible exact H2_)|(have H2_:=(Option.bind_some _ _).symm.trans H;with_reducible exact H2_)|with_reducible exact H|(rw [hy1078];exact H)|exact H
 have Ny1078:=Aside0.mk hy1078;clear hy1078;have H':=Aside0.mk H;clear H;go_enter Tryz.func237,Tryz.ntmps237;go_wp2_with (first|(refine bE (N:=1) (cs:= #[.slice A0_0 l0_0.length c0_0]) (t:=26) ?_;intro gb1074 hg w2 hbox hb;have BK1074:=Aside0.mk (hbox);have GW1074:=Aside0.mk ((gV hg (uB HB)));have GE1074:=GW1074;replace HB:=Aside0.mk (Qb (uB HB) hb);clear hb hbox hg)|((with_reducible refine Qb9 (N:=7) rfl ?_);refine Kd.R_lit (Kd.int .i64) _ 3 ?hg (N:=7) ?hd (xs:=([] :List Int)) (inner:= []) (ok:=fun _=>True) (okp:=fun _=>True) ?hr ?hp (fun _ hk=>hk) trivial (Below.refl _ _) (Nat.le_refl _) (by simp) ?_;(case hd=>rfl);(case hg=>rfl);(case hr=>first|(go_simp;done)|(go_simp;rfl));(case hp=>exact (Reps.none _ _));intro v1076 w3 ho4 hb hg_ hnew_;clear hg_ hnew_;(first|rw [←Ny1075.out] at ho4|(simp only [Int.reduceToNat] at ho4;rw [←Ny1075.out] at ho4));have HO1077:=Aside0.mk (Kd.R_lower ho4 (Qj (uB HB)));replace BK1074:=Aside0.mk (Qc (uK BK1074) hb);replace HB:=Aside0.mk (Qb (uB HB) hb);clear hb ho4)|((with_reducible refine Qb9 (N:=8) rfl ?_);refine Kd.R_lit (Kd.int .i64) _ 3 ?hg (N:=8) ?hd (xs:=([0,1] :List Int)) (inner:= [.int .i64 0, .int .i64 1]) (ok:=fun _=>True) (okp:=fun _=>True) ?hr ?hp (fun _ hk=>hk) trivial (Below.refl _ _) (Nat.le_refl _) (by simp) ?_;(case hd=>rfl);(case hg=>rfl);(case hr=>first|(go_simp;done)|(go_simp;rfl));(case hp=>exact (Reps.one (show Kd.M (Kd.int .i64) _ _ _ 0 [.int .i64 0] from rfl) (Reps.one (show Kd.M (Kd.int .i64) _ _ _ 1 [.int .i64 1] from rfl) (Reps.none _ _))));intro v1079 w5 ho6 hb hg_ hnew_;clear hg_ hnew_;(first|rw [←Ny1078.out] at ho6|(simp only [Int.reduceToNat] at ho6;rw [←Ny1078.out] at ho6));have HO1080:=Aside0.mk (Kd.R_lower (Kd.R_new' ho6 (Kd.R_lt (uR HO1077))) (Qj (uB HB)));replace HO1077:=Aside0.mk (Kd.R_elder' (uR HO1077) (Kd.R_base ho6) hb);replace BK1074:=Aside0.mk (Qc (uK BK1074) hb);replace HB:=Aside0.mk (Qb (uB HB) hb);clear hb ho6;obtain ⟨Ao7,co7,eo7⟩:=Kd.R_slice HO1080.out;subst eo7))
 go_loopg [3,10] k (fun kq v3 v10 w'=> ∃ (x3_1:List Int) (x10_1:Int),v10= .int .i64 x10_1∧Aside0 (Q1.l0 kq x3_1 y1078 (y1078.length:Int) x10_1 l0_0=some r)∧Aside0 (kq≤k)∧Aside0 (Kd.R (Kd.int .i64) 3 w' w.heap.size (fun k_=>some k_≠((.slice Ao7 y1078.length co7):Value).ownBlock) v3 x3_1)∧Aside0 (Kd.R (Kd.int .i64) 3 w' w.heap.size (fun k_=>some k_≠(v3:Value).ownBlock) (.slice Ao7 y1078.length co7) y1078)∧Aside0 (w'.heap[gb1074]? =some (.cells #[(.slice A0_0 l0_0.length c0_0)] 26 (0,0)))∧Aside0 (Below w.heap.size w w'))
 case atStart=>exact ⟨(y1075),(0),(by first|rfl|(simp;done)|(simp [*];done)),H',⟨Nat.le_refl _⟩,⟨by (with_reducible repeat (first|apply Kd.R_alloc|apply Kd.R_drewN|apply Kd.R_drew));exact Kd.R_mono HO1077.out (fun _ hk=>hk.2)⟩,⟨by (with_reducible repeat (first|apply Kd.R_alloc|apply Kd.R_drewN|apply Kd.R_drew));exact Kd.R_mono HO1080.out (fun _ hk=>hk.2)⟩,⟨uK BK1074⟩,⟨uB HB⟩⟩
 case round=>
  clear H'
  try clear c2
  try clear p2
  obtain ⟨x3_1,x10_1,rfl,HA,HK1,HO_3,HO_8,BK1074,HB⟩:=hrel;cases gk with
  |zero=>exact absurd HA.out (by simp [Q1.l0])
  |succ k1=>
   have H:=HA.out;clear HA;simp only [Q1.l0] at H
   by_cases c8:x10_1<(y1078.length:Int)
   ·
    rw [if_pos c8] at H;have c8b0:=decide_eq_true c8;clear c8
    by_cases c9:0≤x10_1
    ·
     rw [if_pos c9] at H;have c9b0:=decide_eq_true c9;clear c9
     by_cases c10:x10_1<(y1078.length:Int)
     ·
      rw [if_pos c10] at H;have c10b0:=decide_eq_true c10;clear c10;have H':=Aside0.mk H;clear H;have p1081:0≤(x10_1:Int):=of_decide_eq_true (by first|(with_reducible assumption)|assumption);have q1081:x10_1<(y1078.length:Int):=of_decide_eq_true (by first|(with_reducible assumption)|assumption);obtain ⟨ad1081,e1081,hx1081_0⟩:=Kd.at_int (Kd.R_reads' HO_8.out).2.2 x10_1 p1081 q1081;cases e1081;replace p1081:=eq_true p1081;replace q1081:=eq_true q1081;go_wp2
      go_loopg [3,6] k1 (fun kq v3 v6 w'=> ∃ (x3_2:List Int) (x6_2:Int),v6= .int .i64 x6_2∧Aside0 (Q1.l1 kq x3_2 x6_2 y1078 (y1078.length:Int) x10_1 l0_0=some r)∧Aside0 (kq≤k1)∧Aside0 (Kd.R (Kd.int .i64) 3 w' w.heap.size (fun k_=>some k_≠((.slice (some ad1081) y1078.length co7):Value).ownBlock) v3 x3_2)∧Aside0 (Kd.R (Kd.int .i64) 3 w' w.heap.size (fun k_=>some k_≠(v3:Value).ownBlock) (.slice (some ad1081) y1078.length co7) y1078)∧Aside0 (w'.heap[gb1074]? =some (.cells #[(.slice A0_0 l0_0.length c0_0)] 26 (0,0)))∧Aside0 (Below w.heap.size w w'))
      case atStart=>exact ⟨(x3_1),(rd y1078 x10_1),(by first|rfl|(simp;done)|(simp [*];done)),H',⟨Nat.le_refl _⟩,⟨uR HO_3⟩,⟨uR HO_8⟩,⟨uK BK1074⟩,⟨uB HB⟩⟩
      case round=>
       clear H'
       try clear c1
       try clear p1
       try clear q1
       try clear hx1
       try clear c2
       try clear p2
       try clear c8
       try clear c8b0
       try clear c9
       try clear c9b0
       try clear c10
       try clear c10b0
       try clear p10
       try clear q10
       try clear hx10
       try clear hx1081_0
       try clear p1081
       try clear p2
       try clear q1081
       obtain ⟨x3_2,x6_2,rfl,HA,HK2,HO_3,HO_8,BK1074,HB⟩:=hrel;cases gk with
       |zero=>exact absurd HA.out (by simp [Q1.l1])
       |succ k2=>
        have H:=HA.out;clear HA;simp only [Q1.l1] at H;obtain ⟨t1082,A11,H⟩:=bs H;(try dsimp only at H)
        by_cases c12:x6_2≤t1082
        ·
         rw [if_pos c12] at H;have c12b0:=decide_eq_true c12;clear c12
         by_cases c13:x3_2.length<17592186044416
         ·
          rw [if_pos c13] at H;have LMc13:=Aside0.mk c13;clear c13;obtain ⟨y1083,hy1083⟩: ∃ y_:List Int,y_=(x3_2++ [x6_2]):=⟨_,rfl⟩
          replace H:(Q1.l1 k2 y1083 (wrap64 (x6_2+2)) y1078 (y1078.length:Int) x10_1 l0_0)=some r:=by first|(rw [hy1083];with_reducible exact H)|(have H2_:=(Option.bind_some _ _).symm.trans H;rw [hy1083];with_reducible exact H2_)|(have H2_:=(Option.bind_some _ _).symm.trans H;with_reducible exact H2_)|with_reducible exact H|(rw [hy1083];exact H)|exact H
          have Ny1083:=Aside0.mk hy1083;clear hy1083;have H':=Aside0.mk H;clear H;have hcz14_0:=bC BK1074;have hfz14_0:=Qf BK1074.out 0;go_wp2_with (first|(refine gA (some 17) Tryz.func151 #[.agg #[.slice A0_0 l0_0.length c0_0]] ?_;(with_reducible refine (Qdv.calls k2 _ _ l0_0 t1082 _ (uD HR0_0 HB) HC0_0.out A11.out).mono ?_);rintro e w15 ⟨rfl,hb⟩;refine ⟨_,rfl,?_⟩;replace HO_3:=Aside0.mk (Kd.R_below (uR HO_3) hb);replace HO_8:=Aside0.mk (Kd.R_below (uR HO_8) hb);replace BK1074:=Aside0.mk (Qc (uK BK1074) hb);replace HB:=Aside0.mk (Qb (uB HB) hb);(try clear hb))|((with_reducible refine Qcj (b:= .append) (xs:= #[.tmp 21, .tmp 23]) rfl ?_);at_builtin;refine Kd.R_append (Kd.int .i64) (w0:=w) w.heap.size rfl (.tmp 21) (.tmp 23) 24 3 (.int .i64 0) 8 rfl Tryz.underlying24 Qeo rfl (by decide) (by omega) u3 x3_2 x6_2 [.int .i64 x6_2] (fun k_=>some k_≠(.slice (some ad1081) y1078.length co7:Value).ownBlock) (fun _=>False) rfl rfl ?aP (fun _ hk=>hk.elim) ?aF ?aO ?aB ?aS ?aL ?_;(case aP=>exact rfl);(case aB=>exact (uB HB));(case aF=>exact (fun k_ hk=>Kd.fresh' (Kd.R_lt (uR HO_8)) k_ hk));(case aO=>exact (uR HO_3));(case aS=>exact (Qj (uB HB)));(case aL=>have:=LMc13.out;omega);intro v1084 w16 ho hb hg hat;rw [←Ny1083.out] at ho;replace HO_8:=Aside0.mk (Kd.R_after (ok:=(fun _=>True)) (by (with_reducible repeat (first|apply Kd.R_alloc|apply Kd.R_drewN|apply Kd.R_drew));exact Kd.R_mono HO_8.out (fun _ hk=>⟨trivial,hk⟩)) hg hat);replace BK1074:=Aside0.mk (Qdi (uK BK1074) hg (Kd.R_ne HO_3.out BK1074.out (by decide)));replace HB:=Aside0.mk (hb);have HO1085:=Aside0.mk (ho);clear HO_3;clear ho hb hg hat));go_roundg k2
          case measure=>have:=HK1.out;have:=HK2.out;omega
          case rel=>exact ⟨(y1083),(wrap64 (x6_2+2)),(by first|rfl|(simp;done)|(simp [*];done)),H',⟨by have:=HK1.out;have:=HK2.out;omega⟩,⟨uR HO1085⟩,⟨by (with_reducible repeat (first|apply Kd.R_alloc|apply Kd.R_drewN|apply Kd.R_drew));exact Kd.R_mono HO_8.out (fun _ hk=>hk.2)⟩,⟨uK BK1074⟩,⟨uB HB⟩⟩
         ·
          rw [if_neg c13] at H;exact absurd H (by simp)
        ·
         rw [if_neg c12] at H;have c12b0:=decide_eq_false c12;clear c12;have H':=Aside0.mk H;clear H;have hcz17_0:=bC BK1074;have hfz17_0:=Qf BK1074.out 0;go_wp2_with (first|(refine gA (some 17) Tryz.func151 #[.agg #[.slice A0_0 l0_0.length c0_0]] ?_;(with_reducible refine (Qdv.calls k2 _ _ l0_0 t1082 _ (uD HR0_0 HB) HC0_0.out A11.out).mono ?_);rintro e w18 ⟨rfl,hb⟩;refine ⟨_,rfl,?_⟩;replace HO_3:=Aside0.mk (Kd.R_below (uR HO_3) hb);replace HO_8:=Aside0.mk (Kd.R_below (uR HO_8) hb);replace BK1074:=Aside0.mk (Qc (uK BK1074) hb);replace HB:=Aside0.mk (Qb (uB HB) hb);(try clear hb)));go_roundg k2
         case measure=>have:=HK1.out;have:=HK2.out;omega
         case rel=>exact ⟨(x3_2),(wrap64 (x10_1+1)),(by first|rfl|(simp;done)|(simp [*];done)),H',⟨by have:=HK1.out;have:=HK2.out;omega⟩,⟨uR HO_3⟩,⟨uR HO_8⟩,⟨uK BK1074⟩,⟨uB HB⟩⟩
     ·
      rw [if_neg c10] at H;exact absurd H (by simp)
    ·
     rw [if_neg c9] at H;exact absurd H (by simp)
   ·
    rw [if_neg c8] at H;have c8b0:=decide_eq_false c8;clear c8;obtain rfl:=Option.some.inj H;go_wp2
    go_ret
    exact ⟨_,by first|rfl|(simp [Qd,Qe] <;>rfl)|(simp [*,Qd,Qe] <;>rfl),by (with_reducible repeat (first|apply Kd.R_alloc|apply Kd.R_drewN|apply Kd.R_drew));exact Kd.R_mono HO_3.out (fun _ hk=>trivial),uB HB⟩
def Qdp.f (k : Nat) (l0_0 : List Int) (a1 : Int) : Option (Int × Bool) := (Qbx.f k l0_0 a1).bind fun t1087 => (if t1087 = true then ((Q1.f k l0_0).bind fun t1088 => ((Qp.f k l0_0 a1 t1088).bind fun t1091 => (some (t1091, true)))) else (some (0, false)))
theorem Qdp.mono : ∀ a0 a1 k, LeO (Qdp.f k a0 a1) (Qdp.f (k + 1) a0 a1) := by
 intro a0 a1 k;unfold Qdp.f
 repeat' (with_reducible first|apply Q1.mono|apply Qp.mono|apply Qbx.mono|exact LeO.refl _|exact LeO.none _|refine LeO.ite ?_ ?_|refine LeO.bind ?_ (fun _=> ?_))
set_option maxHeartbeats 8000000 in
set_option maxRecDepth 100000 in
theorem Qdp.calls (k : Nat) (A0_0 : Option Addr) (c0_0 : Nat) (l0_0 : List Int) (a1 : Int) (r1 : Int) (r2 : Bool) (w : World) (hr0_0 : Kd.C (Kd.int .i64) w A0_0 l0_0.length l0_0) (hc0_0 : l0_0.length ≤ c0_0) (h : Qdp.f k l0_0 a1 = some (r1, r2)) :
 Calls Tryz.prog 90 #[.agg #[.slice A0_0 l0_0.length c0_0], .int .i64 a1] w fun e w'=>e= .returned (.tuple #[.int .i64 r1, .bool r2])∧Below w.heap.size w w':=by
 have hu26:=Tryz.underlying26;have HR0_0:=Aside0.mk hr0_0;have HC0_0:=Aside0.mk hc0_0;clear hr0_0 hc0_0;have HB:=Aside0.mk (Below.refl w.heap.size w);have H:((Qbx.f k l0_0 a1).bind fun t1087=>(if t1087=true then ((Q1.f k l0_0).bind fun t1088=>((Qp.f k l0_0 a1 t1088).bind fun t1091=>(some (t1091,true)))) else (some (0,false))))=some (r1,r2):=h;clear h;obtain ⟨t1087,A3,H⟩:=bs H;(try dsimp only at H)
 by_cases c4:t1087=true
 ·
  subst c4;rw [if_pos rfl] at H;obtain ⟨t1088,A5,H⟩:=bs H;(try dsimp only at H)
  obtain ⟨t1091,A6,H⟩:=bs H;(try dsimp only at H)
  simp only [Option.some.injEq,Prod.mk.injEq] at H;obtain ⟨rfl,rfl⟩:=H;go_enter Tryz.func90,Tryz.ntmps90
  try go_wp2_with (first|(refine bE (N:=2) (cs:= #[.slice A0_0 l0_0.length c0_0]) (t:=26) ?_;intro gb1086 hg w7 hbox hb;have BK1086:=Aside0.mk (hbox);have GW1086:=Aside0.mk ((gV hg (uB HB)));have GE1086:=GW1086;replace HB:=Aside0.mk (Qb (uB HB) hb);clear hb hbox hg;have hcz8_0:=bC BK1086;have hfz8_0:=Qf BK1086.out 0)|(refine gA (some 8) Tryz.func148 #[.agg #[.slice A0_0 l0_0.length c0_0], .int .i64 a1] ?_;(with_reducible refine (Qbx.calls k _ _ l0_0 a1 true _ (uD HR0_0 HB) HC0_0.out A3.out).mono ?_);rintro e w9 ⟨rfl,hb⟩;refine ⟨_,rfl,?_⟩;replace BK1086:=Aside0.mk (Qc (uK BK1086) hb);replace HB:=Aside0.mk (Qb (uB HB) hb);(try clear hb)))
  replace BK1086:=Aside0.mk (Ql BK1086.out);replace HB:=Aside0.mk (Qo HB.out);refine sU (n:=7) (S:=fun w'=>w'.cell? ⟨gb1086,0,none⟩=some (.slice A0_0 l0_0.length c0_0)) (ds:= []) ((Qcg BK1086.out 0).trans rfl) (fun hHeld=> ?_);generalize w9.drew=w10 at BK1086 HB hHeld ⊢;refine pV 1 11 ?_;refine tV 0 10 hHeld ?_;refine tV 2 12 hHeld ?_;refine oV 3 (some 13) fun K hK=> ?_
  refine Qe0 Tryz.func237 (by kernel_rfl) rfl #[.agg #[.slice A0_0 l0_0.length c0_0]] (by rfl) rfl rfl (by (try simp only [List.map_toArray,List.map_cons,List.map_nil]);first|done|rfl|(simp only [List.length_drop,List.length_take];rfl)) ?_
  with_reducible refine (Q1.calls k _ _ l0_0 t1088 _ ?side1 ?side2 A5.out).mono ?_
  (case side1=>repeat (first|exact (Kd.C_below HR0_0.out HB.out)|(with_reducible refine Kd.C_alloc ?_ _)|(with_reducible refine Kd.C_drewN ?_ _)|(with_reducible refine Kd.C_drew ?_)))
  (case side2=>exact HC0_0.out)
  rintro e w11 ⟨v1089,rfl,ho0,hb⟩;refine ⟨_,rfl,?_⟩;have HO1090:=Aside0.mk (Kd.R_lower ho0 (Qj (uB HB)));replace BK1086:=Aside0.mk (Qc (uK BK1086) hb);replace HB:=Aside0.mk (Qb (uB HB) hb)
  skip
  skip
  skip
  skip
  skip
  obtain ⟨Ao12,co12,eo12⟩:=Kd.R_slice HO1090.out
  (first|subst eo12|(injection eo12 with f1_ f2_ f3_;have f4_:=f1_.symm;have f5_:=f3_.symm;clear f1_ f2_ f3_;subst f4_;subst f5_))
  refine hK.out _ _ ((Qcg BK1086.out 0).trans rfl) (fun hHeld=> ?_);clear hK K;refine nU 13 ?_;refine oV 4 (some 14) fun K hK=> ?_
  refine Qe0 Tryz.func149 (by kernel_rfl) rfl #[.agg #[.slice A0_0 l0_0.length c0_0], .int .i64 a1, .slice Ao12 t1088.length co12] (by rfl) rfl rfl (by (try simp only [List.map_toArray,List.map_cons,List.map_nil]);first|done|rfl|(simp only [List.length_drop,List.length_take];rfl)) ?_
  with_reducible refine (Qp.calls k _ _ l0_0 a1 _ _ t1088 t1091 _ ?side1 ?side2 ?side3 ?side4 A6.out).mono ?_
  (case side1=>repeat (first|exact (Kd.C_below HR0_0.out HB.out)|(with_reducible refine Kd.C_alloc ?_ _)|(with_reducible refine Kd.C_drewN ?_ _)|(with_reducible refine Kd.C_drew ?_)))
  (case side2=>exact HC0_0.out)
  (case side3=>repeat (first|exact (Kd.R_reads' HO1090.out).2.2|(with_reducible refine Kd.C_alloc ?_ _)|(with_reducible refine Kd.C_drewN ?_ _)|(with_reducible refine Kd.C_drew ?_)))
  (case side4=>exact (Kd.R_reads' HO1090.out).2.1)
  rintro e w13 ⟨rfl,hb⟩;refine ⟨_,rfl,?_⟩;replace HO1090:=Aside0.mk (Kd.R_below (uR HO1090) hb);replace BK1086:=Aside0.mk (Qc (uK BK1086) hb);replace HB:=Aside0.mk (Qb (uB HB) hb)
  skip
  skip
  skip
  skip
  refine hK.out _ _ ((Qcg BK1086.out 0).trans rfl) (fun hHeld=> ?_);clear hK K;refine nU 14 ?_;refine pV 5 4 ?_;refine pV 6 5 ?_;refine done_ (by kernel_rfl) ?_
  try go_wp2
  go_ret2
  exact ⟨by first|rfl|(simp [Qd,Qe] <;>rfl)|(simp [*,Qd,Qe] <;>rfl),uB HB⟩
 ·
  replace c4:=Bool.eq_false_iff.mpr c4;subst c4;rw [if_neg (show ¬ (false=true) by decide)] at H;simp only [Option.some.injEq,Prod.mk.injEq] at H;obtain ⟨rfl,rfl⟩:=H;go_enter Tryz.func90,Tryz.ntmps90;go_wp2_with (first|(refine bE (N:=2) (cs:= #[.slice A0_0 l0_0.length c0_0]) (t:=26) ?_;intro gb1086 hg w14 hbox hb;have BK1086:=Aside0.mk (hbox);have GW1086:=Aside0.mk ((gV hg (uB HB)));have GE1086:=GW1086;replace HB:=Aside0.mk (Qb (uB HB) hb);clear hb hbox hg;have hcz15_0:=bC BK1086;have hfz15_0:=Qf BK1086.out 0)|(refine gA (some 8) Tryz.func148 #[.agg #[.slice A0_0 l0_0.length c0_0], .int .i64 a1] ?_;(with_reducible refine (Qbx.calls k _ _ l0_0 a1 false _ (uD HR0_0 HB) HC0_0.out A3.out).mono ?_);rintro e w16 ⟨rfl,hb⟩;refine ⟨_,rfl,?_⟩;replace BK1086:=Aside0.mk (Qc (uK BK1086) hb);replace HB:=Aside0.mk (Qb (uB HB) hb);(try clear hb)))
  go_ret2
  exact ⟨by first|rfl|(simp [Qd,Qe] <;>rfl)|(simp [*,Qd,Qe] <;>rfl),uB HB⟩
def Qbf.l0 : Nat → Int → Bool → Int → Int → List Int → Int → Int → List Int → Option (Int)
 |0,_,_,_,_,_,_,_,_=>none
 |k+1,x1,x2,x7,x8,x12,x13,x14,x1093000=>if x14<x13 then (if 0≤x14 then (if x14<(x12.length:Int) then (if (Int.tmod x14 2)=0 then (Qbf.l0 k x1 x2 (Go.bits .or .i64 x7 (rd x12 x14)) x8 x12 x13 (wrap64 (x14+1)) x1093000) else (Qbf.l0 k x1 x2 x7 (Go.bits .or .i64 x8 (rd x12 x14)) x12 x13 (wrap64 (x14+1)) x1093000)) else (none)) else (none)) else (if x2=true then ((Qcd.f k x1093000 x1 x8).bind fun t1097=>((Qcd.f k x1093000 t1097 x7).bind fun t1098=>(some t1098))) else ((Qcd.f k x1093000 x1 x7).bind fun t1099=>((Qcd.f k x1093000 t1099 x8).bind fun t1100=>(some t1100))))
def Qbf.f (k : Nat) (l0_0 : List Int) (a1 : Int) (a2 : Bool) : Option (Int) := (Q0.f k l0_0).bind fun t1093 => (Qbf.l0 k a1 a2 0 0 t1093 (t1093.length : Int) 0 l0_0)
theorem Qbf.mono_l : ∀ k, (∀ y0 y1 y2 y3 y4 y5 y6 y7, LeO (Qbf.l0 k y0 y1 y2 y3 y4 y5 y6 y7) (Qbf.l0 (k + 1) y0 y1 y2 y3 y4 y5 y6 y7))
 |0=>fun _ _ _ _ _ _ _ _ r h=>by simp [Qbf.l0] at h
 |k+1=>by
  have ih0:=Qbf.mono_l k
  ·
   intro y0 y1 y2 y3 y4 y5 y6 y7;unfold Qbf.l0
   repeat' first
   |(with_reducible exact ih0 _ _ _ _ _ _ _ _)
   |(with_reducible exact Qcd.mono _ _ _ _)
   |(with_reducible exact Q0.mono _ _)
   |(with_reducible exact LeO.refl _)
   |(with_reducible exact LeO.none _)
   |(with_reducible refine LeO.ite ?_ ?_)
   |(with_reducible refine LeO.bind ?_ (fun _=> ?_))
   |exact ih0 _ _ _ _ _ _ _ _
   |exact Qcd.mono _ _ _ _
   |exact Q0.mono _ _
   |exact LeO.none _
   |refine LeO.ite ?_ ?_
   |refine LeO.bind ?_ (fun _=> ?_)
theorem Qbf.mono : ∀ a0 a1 a2 k, LeO (Qbf.f k a0 a1 a2) (Qbf.f (k + 1) a0 a1 a2) := by
 intro a0 a1 a2 k;have ih0:=Qbf.mono_l k;unfold Qbf.f
 repeat' (with_reducible first|apply ih0|apply Qcd.mono|apply Q0.mono|exact LeO.refl _|exact LeO.none _|refine LeO.ite ?_ ?_|refine LeO.bind ?_ (fun _=> ?_))
def Qbf.T10 : Bool × List (List Nat × List Nat) := (true, [([], []), ([], []), ([], []), ([], []), ([1, 2, 3], [1, 2, 3]), ([], []), ([0, 4, 5, 4], [0, 4, 5]), ([6, 6, 0, 1, 2, 3, 4, 5, 6], [6])])
def Qbf.B10 : List Nat := [0, 0, 0, 0, 14, 0, 63, 127]
theorem Qbf.tab10 : rtab .any (Qfj Tryz.f238 10) = Qbf.T10 := by kernel_rfl
theorem Qbf.bits10 : Qea Qbf.T10.2 Qbf.B10 = true := by kernel_rfl
def Qbf.T11 : Bool × List (List Nat × List Nat) := (true, [([], []), ([], []), ([], []), ([], []), ([1, 2, 3], [1, 2, 3]), ([], []), ([0, 4, 5, 4], [0, 4, 5]), ([6, 6, 0, 1, 2, 3, 4, 5, 6], [6])])
def Qbf.B11 : List Nat := [0, 0, 0, 0, 14, 0, 63, 127]
theorem Qbf.tab11 : rtab .any (Qfj Tryz.f238 11) = Qbf.T11 := by kernel_rfl
theorem Qbf.bits11 : Qea Qbf.T11.2 Qbf.B11 = true := by kernel_rfl
set_option maxHeartbeats 8000000 in
set_option maxRecDepth 100000 in
theorem Qbf.calls (k : Nat) (A0_0 : Option Addr) (c0_0 : Nat) (l0_0 : List Int) (a1 : Int) (a2 : Bool) (r : Int) (w : World) (hr0_0 : Kd.C (Kd.int .i64) w A0_0 l0_0.length l0_0) (hc0_0 : l0_0.length ≤ c0_0) (h : Qbf.f k l0_0 a1 a2 = some r) :
 Calls Tryz.prog 238 #[.agg #[.slice A0_0 l0_0.length c0_0], .int .i64 a1, .bool a2] w fun e w'=>e= .returned (.int .i64 r)∧Below w.heap.size w w':=by
 have hu26:=Tryz.underlying26;have HR0_0:=Aside0.mk hr0_0;have HC0_0:=Aside0.mk hc0_0;clear hr0_0 hc0_0;have HB:=Aside0.mk (Below.refl w.heap.size w);have H:((Q0.f k l0_0).bind fun t1093=>(Qbf.l0 k a1 a2 0 0 t1093 (t1093.length:Int) 0 l0_0))=some r:=h;clear h;obtain ⟨t1093,A4,H⟩:=bs H;(try dsimp only at H)
 have H':=Aside0.mk H;clear H;go_enter Tryz.func238,Tryz.ntmps238;go_wp2_with (first|(refine bE (N:=3) (cs:= #[.slice A0_0 l0_0.length c0_0]) (t:=26) ?_;intro gb1092 hg w5 hbox hb;have BK1092:=Aside0.mk (hbox);have GW1092:=Aside0.mk ((gV hg (uB HB)));have GE1092:=GW1092;replace HB:=Aside0.mk (Qb (uB HB) hb);clear hb hbox hg;have hcz6_0:=bC BK1092;have hfz6_0:=Qf BK1092.out 0)|(refine gA (some 12) Tryz.func155 #[.agg #[.slice A0_0 l0_0.length c0_0]] ?_;(with_reducible refine (Q0.calls k _ _ l0_0 t1093 _ (uD HR0_0 HB) HC0_0.out A4.out).mono ?_);rintro e w7 ⟨v1094,rfl,ho0,hb⟩;refine ⟨_,rfl,?_⟩;have HO1095:=Aside0.mk (Kd.R_lower ho0 (Qj (uB HB)));replace BK1092:=Aside0.mk (Qc (uK BK1092) hb);replace HB:=Aside0.mk (Qb (uB HB) hb);(try clear hb ho0);obtain ⟨Ao8,co8,eo8⟩:=Kd.R_slice HO1095.out;subst eo8))
 go_loopg [7,8,14] k (fun kq v7 v8 v14 w'=> ∃ (x7_1:Int) (x8_1:Int) (x14_1:Int),v7= .int .i64 x7_1∧v8= .int .i64 x8_1∧v14= .int .i64 x14_1∧Aside0 (Qbf.l0 kq a1 a2 x7_1 x8_1 t1093 (t1093.length:Int) x14_1 l0_0=some r)∧Aside0 (kq≤k)∧Aside0 (Kd.R (Kd.int .i64) 3 w' w.heap.size (fun _=>True) (.slice Ao8 t1093.length co8) t1093)∧Aside0 (w'.heap[gb1092]? =some (.cells #[(.slice A0_0 l0_0.length c0_0)] 26 (0,0)))∧Aside0 (Below w.heap.size w w'))
 case atStart=>exact ⟨(0),(0),(0),(by first|rfl|(simp;done)|(simp [*];done)),(by first|rfl|(simp;done)|(simp [*];done)),(by first|rfl|(simp;done)|(simp [*];done)),H',⟨Nat.le_refl _⟩,⟨uR HO1095⟩,⟨uK BK1092⟩,⟨uB HB⟩⟩
 case round=>
  clear H'
  try clear c1
  try clear c2
  try clear p2
  try clear hcz6_0
  try clear hfz6_0
  obtain ⟨x7_1,x8_1,x14_1,rfl,rfl,rfl,HA,HK1,HO_12,BK1092,HB⟩:=hrel;cases gk with
  |zero=>exact absurd HA.out (by simp [Qbf.l0])
  |succ k1=>
   have H:=HA.out;clear HA;simp only [Qbf.l0] at H
   by_cases c9:x14_1<(t1093.length:Int)
   ·
    rw [if_pos c9] at H;have c9b0:=decide_eq_true c9;clear c9
    by_cases c10:0≤x14_1
    ·
     rw [if_pos c10] at H;have c10b0:=decide_eq_true c10;clear c10
     by_cases c11:x14_1<(t1093.length:Int)
     ·
      rw [if_pos c11] at H;have c11b0:=decide_eq_true c11;clear c11
      by_cases c12:(Int.tmod x14_1 2)=0
      ·
       rw [if_pos c12] at H;have c12b0:((Int.tmod x14_1 2)==0)=true:=beq_iff_eq.mpr c12;have c12b1:((Int.tmod x14_1 2) !=0)=false:=bne_eq_false_iff_eq.mpr c12;clear c12;have H':=Aside0.mk H;clear H;have p1096:0≤(x14_1:Int):=of_decide_eq_true (by first|(with_reducible assumption)|assumption);have q1096:x14_1<(t1093.length:Int):=of_decide_eq_true (by first|(with_reducible assumption)|assumption);obtain ⟨ad1096,e1096,hx1096_0⟩:=Kd.at_int (Kd.R_reads' HO_12.out).2.2 x14_1 p1096 q1096;cases e1096;replace p1096:=eq_true p1096;replace q1096:=eq_true q1096;go_wp2;go_roundg k1
       case measure=>have:=HK1.out;omega
       case rel=>exact ⟨(Go.bits .or .i64 x7_1 (rd t1093 x14_1)),(x8_1),(wrap64 (x14_1+1)),(by first|rfl|(simp;done)|(simp [*];done)),(by first|rfl|(simp;done)|(simp [*];done)),(by first|rfl|(simp;done)|(simp [*];done)),H',⟨by have:=HK1.out;omega⟩,⟨uR HO_12⟩,⟨uK BK1092⟩,⟨uB HB⟩⟩
      ·
       rw [if_neg c12] at H;have c12b0:((Int.tmod x14_1 2)==0)=false:=beq_eq_false_iff_ne.mpr c12;have c12b1:((Int.tmod x14_1 2) !=0)=true:=bne_iff_ne.mpr c12;have H':=Aside0.mk H;clear H;have p1096:0≤(x14_1:Int):=of_decide_eq_true (by first|(with_reducible assumption)|assumption);have q1096:x14_1<(t1093.length:Int):=of_decide_eq_true (by first|(with_reducible assumption)|assumption);obtain ⟨ad1096,e1096,hx1096_0⟩:=Kd.at_int (Kd.R_reads' HO_12.out).2.2 x14_1 p1096 q1096;cases e1096;replace p1096:=eq_true p1096;replace q1096:=eq_true q1096;go_wp2;go_roundg k1
       case measure=>have:=HK1.out;omega
       case rel=>exact ⟨(x7_1),(Go.bits .or .i64 x8_1 (rd t1093 x14_1)),(wrap64 (x14_1+1)),(by first|rfl|(simp;done)|(simp [*];done)),(by first|rfl|(simp;done)|(simp [*];done)),(by first|rfl|(simp;done)|(simp [*];done)),H',⟨by have:=HK1.out;omega⟩,⟨uR HO_12⟩,⟨uK BK1092⟩,⟨uB HB⟩⟩
     ·
      rw [if_neg c11] at H;exact absurd H (by simp)
    ·
     rw [if_neg c10] at H;exact absurd H (by simp)
   ·
    rw [if_neg c9] at H;have c9b0:=decide_eq_false c9;clear c9
    by_cases c13:a2=true
    ·
     subst c13;rw [if_pos rfl] at H;obtain ⟨t1097,A14,H⟩:=bs H;(try dsimp only at H)
     obtain ⟨t1098,A15,H⟩:=bs H;(try dsimp only at H)
     obtain rfl:=Option.some.inj H
     try go_wp2
     replace HO_12:=Aside0.mk (Kd.R_drew HO_12.out);replace BK1092:=Aside0.mk (Ql BK1092.out);replace HB:=Aside0.mk (Qo HB.out);refine sU (n:=8) (S:=fun w'=>w'.cell? ⟨gb1092,0,none⟩=some (.slice A0_0 l0_0.length c0_0)) (ds:= []) ((Qcg BK1092.out 0).trans rfl) (fun hHeld=> ?_);refine Qeb Qbf.tab10 Qbf.bits10 (fun HT_ HW_=> ?_);generalize wr.drew=w16 at HO_12 BK1092 HB hHeld ⊢;refine pU 2 32 ?_;refine pU 3 33 ?_;refine pU 5 35 ?_;refine tU 0 30 hHeld ?_;refine tU 1 31 hHeld ?_;refine oU 4 (some 34) fun K hK=> ?_
     refine Qe0 Tryz.func279 (by kernel_rfl) rfl #[.agg #[.slice A0_0 l0_0.length c0_0], .int .i64 a1, .int .i64 x8_1] (by rfl) rfl rfl (by (try simp only [List.map_toArray,List.map_cons,List.map_nil]);first|done|rfl|(simp only [List.length_drop,List.length_take];rfl)) ?_
     with_reducible refine (Qcd.calls k1 _ _ l0_0 a1 x8_1 t1097 _ ?side1 ?side2 A14.out).mono ?_
     (case side1=>repeat (first|exact (Kd.C_below HR0_0.out HB.out)|(with_reducible refine Kd.C_alloc ?_ _)|(with_reducible refine Kd.C_drewN ?_ _)|(with_reducible refine Kd.C_drew ?_)))
     (case side2=>exact HC0_0.out)
     rintro e w17 ⟨rfl,hb⟩;refine ⟨_,rfl,?_⟩;replace HO_12:=Aside0.mk (Kd.R_below (uR HO_12) hb);replace BK1092:=Aside0.mk (Qc (uK BK1092) hb);replace HB:=Aside0.mk (Qb (uB HB) hb)
     skip
     skip
     skip
     skip
     refine hK.out _ _ ((Qcg BK1092.out 0).trans rfl) (fun hHeld=> ?_);clear hK K;refine nU 34 ?_;refine oU 6 (some 36) fun K hK=> ?_
     refine Qe0 Tryz.func279 (by kernel_rfl) rfl #[.agg #[.slice A0_0 l0_0.length c0_0], .int .i64 t1097, .int .i64 x7_1] (by rfl) rfl rfl (by (try simp only [List.map_toArray,List.map_cons,List.map_nil]);first|done|rfl|(simp only [List.length_drop,List.length_take];rfl)) ?_
     with_reducible refine (Qcd.calls k1 _ _ l0_0 t1097 x7_1 t1098 _ ?side1 ?side2 A15.out).mono ?_
     (case side1=>repeat (first|exact (Kd.C_below HR0_0.out HB.out)|(with_reducible refine Kd.C_alloc ?_ _)|(with_reducible refine Kd.C_drewN ?_ _)|(with_reducible refine Kd.C_drew ?_)))
     (case side2=>exact HC0_0.out)
     rintro e w18 ⟨rfl,hb⟩;refine ⟨_,rfl,?_⟩;replace HO_12:=Aside0.mk (Kd.R_below (uR HO_12) hb);replace BK1092:=Aside0.mk (Qc (uK BK1092) hb);replace HB:=Aside0.mk (Qb (uB HB) hb)
     skip
     skip
     skip
     skip
     refine hK.out _ _ ((Qcg BK1092.out 0).trans rfl) (fun hHeld=> ?_);clear hK K;refine nU 36 ?_;refine pU 7 6 ?_;refine dU ?_
     try go_wp2
     go_ret
     exact ⟨by first|rfl|(simp [Qd,Qe] <;>rfl)|(simp [*,Qd,Qe] <;>rfl),uB HB⟩
    ·
     replace c13:=Bool.eq_false_iff.mpr c13;subst c13;rw [if_neg (show ¬ (false=true) by decide)] at H;obtain ⟨t1099,A19,H⟩:=bs H;(try dsimp only at H)
     obtain ⟨t1100,A20,H⟩:=bs H;(try dsimp only at H)
     obtain rfl:=Option.some.inj H
     try go_wp2
     replace HO_12:=Aside0.mk (Kd.R_drew HO_12.out);replace BK1092:=Aside0.mk (Ql BK1092.out);replace HB:=Aside0.mk (Qo HB.out);refine sU (n:=8) (S:=fun w'=>w'.cell? ⟨gb1092,0,none⟩=some (.slice A0_0 l0_0.length c0_0)) (ds:= []) ((Qcg BK1092.out 0).trans rfl) (fun hHeld=> ?_);refine Qeb Qbf.tab11 Qbf.bits11 (fun HT_ HW_=> ?_);generalize wr.drew=w21 at HO_12 BK1092 HB hHeld ⊢;refine pU 2 39 ?_;refine pU 3 40 ?_;refine pU 5 42 ?_;refine tU 0 37 hHeld ?_;refine tU 1 38 hHeld ?_;refine oU 4 (some 41) fun K hK=> ?_
     refine Qe0 Tryz.func279 (by kernel_rfl) rfl #[.agg #[.slice A0_0 l0_0.length c0_0], .int .i64 a1, .int .i64 x7_1] (by rfl) rfl rfl (by (try simp only [List.map_toArray,List.map_cons,List.map_nil]);first|done|rfl|(simp only [List.length_drop,List.length_take];rfl)) ?_
     with_reducible refine (Qcd.calls k1 _ _ l0_0 a1 x7_1 t1099 _ ?side1 ?side2 A19.out).mono ?_
     (case side1=>repeat (first|exact (Kd.C_below HR0_0.out HB.out)|(with_reducible refine Kd.C_alloc ?_ _)|(with_reducible refine Kd.C_drewN ?_ _)|(with_reducible refine Kd.C_drew ?_)))
     (case side2=>exact HC0_0.out)
     rintro e w22 ⟨rfl,hb⟩;refine ⟨_,rfl,?_⟩;replace HO_12:=Aside0.mk (Kd.R_below (uR HO_12) hb);replace BK1092:=Aside0.mk (Qc (uK BK1092) hb);replace HB:=Aside0.mk (Qb (uB HB) hb)
     skip
     skip
     skip
     skip
     refine hK.out _ _ ((Qcg BK1092.out 0).trans rfl) (fun hHeld=> ?_);clear hK K;refine nU 41 ?_;refine oU 6 (some 43) fun K hK=> ?_
     refine Qe0 Tryz.func279 (by kernel_rfl) rfl #[.agg #[.slice A0_0 l0_0.length c0_0], .int .i64 t1099, .int .i64 x8_1] (by rfl) rfl rfl (by (try simp only [List.map_toArray,List.map_cons,List.map_nil]);first|done|rfl|(simp only [List.length_drop,List.length_take];rfl)) ?_
     with_reducible refine (Qcd.calls k1 _ _ l0_0 t1099 x8_1 t1100 _ ?side1 ?side2 A20.out).mono ?_
     (case side1=>repeat (first|exact (Kd.C_below HR0_0.out HB.out)|(with_reducible refine Kd.C_alloc ?_ _)|(with_reducible refine Kd.C_drewN ?_ _)|(with_reducible refine Kd.C_drew ?_)))
     (case side2=>exact HC0_0.out)
     rintro e w23 ⟨rfl,hb⟩;refine ⟨_,rfl,?_⟩;replace HO_12:=Aside0.mk (Kd.R_below (uR HO_12) hb);replace BK1092:=Aside0.mk (Qc (uK BK1092) hb);replace HB:=Aside0.mk (Qb (uB HB) hb)
     skip
     skip
     skip
     skip
     refine hK.out _ _ ((Qcg BK1092.out 0).trans rfl) (fun hHeld=> ?_);clear hK K;refine nU 43 ?_;refine pU 7 6 ?_;refine dU ?_
     try go_wp2
     go_ret
     exact ⟨by first|rfl|(simp [Qd,Qe] <;>rfl)|(simp [*,Qd,Qe] <;>rfl),uB HB⟩
def Qdz.f (k : Nat) (l0_0 : List Int) (a1 : Int) : Option (Int × Bool) := (Qcl.f k l0_0 a1).bind fun t1102 => (if t1102 = true then ((Qbf.f k l0_0 a1 false).bind fun t1103 => (some (t1103, true))) else (some (0, false)))
theorem Qdz.mono : ∀ a0 a1 k, LeO (Qdz.f k a0 a1) (Qdz.f (k + 1) a0 a1) := by
 intro a0 a1 k;unfold Qdz.f
 repeat' (with_reducible first|apply Qbf.mono|apply Qcl.mono|exact LeO.refl _|exact LeO.none _|refine LeO.ite ?_ ?_|refine LeO.bind ?_ (fun _=> ?_))
set_option maxHeartbeats 8000000 in
set_option maxRecDepth 100000 in
theorem Qdz.calls (k : Nat) (A0_0 : Option Addr) (c0_0 : Nat) (l0_0 : List Int) (a1 : Int) (r1 : Int) (r2 : Bool) (w : World) (hr0_0 : Kd.C (Kd.int .i64) w A0_0 l0_0.length l0_0) (hc0_0 : l0_0.length ≤ c0_0) (h : Qdz.f k l0_0 a1 = some (r1, r2)) :
 Calls Tryz.prog 91 #[.agg #[.slice A0_0 l0_0.length c0_0], .int .i64 a1] w fun e w'=>e= .returned (.tuple #[.int .i64 r1, .bool r2])∧Below w.heap.size w w':=by
 have hu26:=Tryz.underlying26;have HR0_0:=Aside0.mk hr0_0;have HC0_0:=Aside0.mk hc0_0;clear hr0_0 hc0_0;have HB:=Aside0.mk (Below.refl w.heap.size w);have H:((Qcl.f k l0_0 a1).bind fun t1102=>(if t1102=true then ((Qbf.f k l0_0 a1 false).bind fun t1103=>(some (t1103,true))) else (some (0,false))))=some (r1,r2):=h;clear h;obtain ⟨t1102,A3,H⟩:=bs H;(try dsimp only at H)
 by_cases c4:t1102=true
 ·
  subst c4;rw [if_pos rfl] at H;obtain ⟨t1103,A5,H⟩:=bs H;(try dsimp only at H)
  simp only [Option.some.injEq,Prod.mk.injEq] at H;obtain ⟨rfl,rfl⟩:=H;go_enter Tryz.func91,Tryz.ntmps91;go_wp2_with (first|(refine bE (N:=2) (cs:= #[.slice A0_0 l0_0.length c0_0]) (t:=26) ?_;intro gb1101 hg w6 hbox hb;have BK1101:=Aside0.mk (hbox);have GW1101:=Aside0.mk ((gV hg (uB HB)));have GE1101:=GW1101;replace HB:=Aside0.mk (Qb (uB HB) hb);clear hb hbox hg;have hcz7_0:=bC BK1101;have hfz7_0:=Qf BK1101.out 0)|(refine gA (some 8) Tryz.func152 #[.agg #[.slice A0_0 l0_0.length c0_0], .int .i64 a1] ?_;(with_reducible refine (Qcl.calls k _ _ l0_0 a1 true _ (uD HR0_0 HB) HC0_0.out A3.out).mono ?_);rintro e w8 ⟨rfl,hb⟩;refine ⟨_,rfl,?_⟩;replace BK1101:=Aside0.mk (Qc (uK BK1101) hb);replace HB:=Aside0.mk (Qb (uB HB) hb);(try clear hb);have hcz9_0:=bC BK1101;have hfz9_0:=Qf BK1101.out 0)|(refine gA (some 12) Tryz.func238 #[.agg #[.slice A0_0 l0_0.length c0_0], .int .i64 a1, .bool false] ?_;(with_reducible refine (Qbf.calls k _ _ l0_0 a1 false t1103 _ (uD HR0_0 HB) HC0_0.out A5.out).mono ?_);rintro e w10 ⟨rfl,hb⟩;refine ⟨_,rfl,?_⟩;replace BK1101:=Aside0.mk (Qc (uK BK1101) hb);replace HB:=Aside0.mk (Qb (uB HB) hb);(try clear hb)))
  go_ret2
  exact ⟨by first|rfl|(simp [Qd,Qe] <;>rfl)|(simp [*,Qd,Qe] <;>rfl),uB HB⟩
 ·
  replace c4:=Bool.eq_false_iff.mpr c4;subst c4;rw [if_neg (show ¬ (false=true) by decide)] at H;simp only [Option.some.injEq,Prod.mk.injEq] at H;obtain ⟨rfl,rfl⟩:=H;go_enter Tryz.func91,Tryz.ntmps91;go_wp2_with (first|(refine bE (N:=2) (cs:= #[.slice A0_0 l0_0.length c0_0]) (t:=26) ?_;intro gb1101 hg w11 hbox hb;have BK1101:=Aside0.mk (hbox);have GW1101:=Aside0.mk ((gV hg (uB HB)));have GE1101:=GW1101;replace HB:=Aside0.mk (Qb (uB HB) hb);clear hb hbox hg;have hcz12_0:=bC BK1101;have hfz12_0:=Qf BK1101.out 0)|(refine gA (some 8) Tryz.func152 #[.agg #[.slice A0_0 l0_0.length c0_0], .int .i64 a1] ?_;(with_reducible refine (Qcl.calls k _ _ l0_0 a1 false _ (uD HR0_0 HB) HC0_0.out A3.out).mono ?_);rintro e w13 ⟨rfl,hb⟩;refine ⟨_,rfl,?_⟩;replace BK1101:=Aside0.mk (Qc (uK BK1101) hb);replace HB:=Aside0.mk (Qb (uB HB) hb);(try clear hb)))
  go_ret2
  exact ⟨by first|rfl|(simp [Qd,Qe] <;>rfl)|(simp [*,Qd,Qe] <;>rfl),uB HB⟩
def Q6.l0 : Nat → List Int → Int → Int → Option (List Int)
 |0,_,_,_=>none
 |k+1,x0,x2,x3=>if x2<x3 then (if 0≤x3 then (if x3<(x0.length:Int) then (if 0≤x2 then (if x2<(x0.length:Int) then (Q6.l0 k ((x0.set (x2:Int).toNat (rd x0 x3)).set (x3:Int).toNat (rd x0 x2)) (wrap64 (x2+1)) (wrap64 (x3 - 1))) else (none)) else (none)) else (none)) else (none)) else (some x0)
def Q6.f (k : Nat) (l0 : List Int) : Option (List Int) := Q6.l0 k l0 0 (wrap64 ((l0.length : Int) - 1))
theorem Q6.mono_l : ∀ k, (∀ y0 y1 y2, LeO (Q6.l0 k y0 y1 y2) (Q6.l0 (k + 1) y0 y1 y2))
 |0=>fun _ _ _ r h=>by simp [Q6.l0] at h
 |k+1=>by
  have ih0:=Q6.mono_l k
  ·
   intro y0 y1 y2;unfold Q6.l0
   repeat' first
   |(with_reducible exact ih0 _ _ _)
   |(with_reducible exact LeO.refl _)
   |(with_reducible exact LeO.none _)
   |(with_reducible refine LeO.ite ?_ ?_)
   |(with_reducible refine LeO.bind ?_ (fun _=> ?_))
   |exact ih0 _ _ _
   |exact LeO.none _
   |refine LeO.ite ?_ ?_
   |refine LeO.bind ?_ (fun _=> ?_)
theorem Q6.mono : ∀ a0 k, LeO (Q6.f k a0) (Q6.f (k + 1) a0) := by
 intro a0 k;have ih0:=Q6.mono_l k;unfold Q6.f
 repeat' (with_reducible first|apply ih0|exact LeO.refl _|exact LeO.none _|refine LeO.ite ?_ ?_|refine LeO.bind ?_ (fun _=> ?_))
def Q6.T3 : Bool × List (List Nat × List Nat) := (true, [([], []), ([], []), ([], []), ([], []), ([], []), ([], []), ([4, 5], [4, 5]), ([6], [6]), ([], []), ([], []), ([8, 9], [8, 9]), ([10], [10]), ([0, 1, 0, 1, 4, 5, 6, 7, 11], [0, 1]), ([12, 7, 0, 1, 4, 5, 6, 7, 11], [7, 12]), ([2, 3, 0, 1, 2, 3, 4, 5, 6, 7, 8, 9, 10, 11, 12, 13], [2, 3]), ([14, 11, 13, 0, 1, 2, 3, 4, 5, 6, 7, 8, 9, 10, 11, 12, 13], [11, 14])])
def Q6.B3 : List Nat := [0, 0, 0, 0, 0, 0, 48, 112, 0, 0, 768, 1792, 4083, 8179, 16383, 32767]
theorem Q6.tab3 : rtab .any (Qfj Tryz.f308 3) = Q6.T3 := by kernel_rfl
theorem Q6.bits3 : Qea Q6.T3.2 Q6.B3 = true := by kernel_rfl
set_option maxHeartbeats 8000000 in
set_option maxRecDepth 100000 in
theorem Q6.calls (k : Nat) (P0_ : Nat → Prop) (u9000_ : Value) (l0 : List Int) (r : List Int) (w0 w : World) (hB : Below w0.heap.size w0 w) (ho0 : Kd.R (Kd.int .i64) 3 w w0.heap.size P0_ u9000_ l0) (h : Q6.f k l0 = some r) :
 Calls Tryz.prog 308 #[u9000_] w fun e w'=>e= .returned (.tuple #[])∧Kd.R (Kd.int .i64) 3 w' w0.heap.size (fun k_=>(P0_ k_∨w.heap.size≤k_)) u9000_ r∧Below w0.heap.size w0 w'∧Kept w w' (fun k_=>P0_ k_):=by
 have HO0:=Aside0.mk (show Kd.R (Kd.int .i64) 3 w w0.heap.size (fun k_=>(P0_ k_∨w.heap.size≤k_)) u9000_ l0 from Kd.R_mono ho0 (fun k_ hk=>(.inl hk)));have HK:=Aside0.mk (Kept.refl w (fun k_=>P0_ k_));have HW0:=Aside0.mk hB.size;have HB:=Aside0.mk hB;clear hB;have H:(Q6.l0 k l0 0 (wrap64 ((l0.length:Int) - 1)))=some r:=h;clear h;have H':=Aside0.mk H;clear H;obtain ⟨Ao2,co2,eo2⟩:=Kd.R_slice HO0.out;subst eo2;go_enter Tryz.func308,Tryz.ntmps308;go_wp2
 go_loopg [2,3] k (fun kq v2 v3 w'=> ∃ (x0_1:List Int) (x2_1:Int) (x3_1:Int),v2= .int .i64 x2_1∧v3= .int .i64 x3_1∧Aside0 (Q6.l0 kq x0_1 x2_1 x3_1=some r)∧Aside0 (kq≤k)∧Aside0 (Kd.R (Kd.int .i64) 3 w' w0.heap.size (fun k_=>(P0_ k_∨w.heap.size≤k_)) (.slice Ao2 l0.length co2) x0_1)∧Aside0 (Kept w w' (fun k_=>P0_ k_))∧Aside0 (Below w0.heap.size w0 w'))
 case atStart=>exact ⟨(l0),(0),(wrap64 ((l0.length:Int) - 1)),(by first|rfl|(simp;done)|(simp [*];done)),(by first|rfl|(simp;done)|(simp [*];done)),H',⟨Nat.le_refl _⟩,⟨uR HO0⟩,⟨by repeat (first|(with_reducible first|exact HK.out|apply Kept.alloc|apply Kept.drewN|apply Kept.drew)|exact HK.out)⟩,⟨uB HB⟩⟩
 case round=>
  clear H'
  try clear p2
  obtain ⟨x0_1,x2_1,x3_1,rfl,rfl,HA,HK1,HO_0,HK,HB⟩:=hrel;have hl0_1:=(Kd.R_reads' HO_0.out).1;rw [hl0_1] at HO_0
  (try simp only [hl0_1])
  cases gk with
  |zero=>exact absurd HA.out (by simp [Q6.l0])
  |succ k1=>
   have H:=HA.out;clear HA;simp only [Q6.l0] at H
   by_cases c3:x2_1<x3_1
   ·
    rw [if_pos c3] at H;have c3b0:=decide_eq_true c3;clear c3
    by_cases c4:0≤x3_1
    ·
     rw [if_pos c4] at H;have c4b0:=decide_eq_true c4;clear c4
     by_cases c5:x3_1<(x0_1.length:Int)
     ·
      rw [if_pos c5] at H;have c5b0:=decide_eq_true c5;clear c5
      by_cases c6:0≤x2_1
      ·
       rw [if_pos c6] at H;have c6b0:=decide_eq_true c6;clear c6
       by_cases c7:x2_1<(x0_1.length:Int)
       ·
        rw [if_pos c7] at H;have c7b0:=decide_eq_true c7;clear c7;obtain ⟨y1106,hy1106⟩: ∃ y_:List Int,y_=(x0_1.set (x2_1:Int).toNat (rd x0_1 x3_1)):=⟨_,rfl⟩
        replace H:(Q6.l0 k1 (y1106.set (x3_1:Int).toNat (rd x0_1 x2_1)) (wrap64 (x2_1+1)) (wrap64 (x3_1 - 1)))=some r:=by first|(rw [hy1106];with_reducible exact H)|(have H2_:=(Option.bind_some _ _).symm.trans H;rw [hy1106];with_reducible exact H2_)|(have H2_:=(Option.bind_some _ _).symm.trans H;with_reducible exact H2_)|with_reducible exact H|(rw [hy1106];exact H)|exact H
        have Ny1106:=Aside0.mk hy1106;clear hy1106;obtain ⟨y1107,hy1107⟩: ∃ y_:List Int,y_=(y1106.set (x3_1:Int).toNat (rd x0_1 x2_1)):=⟨_,rfl⟩
        replace H:(Q6.l0 k1 y1107 (wrap64 (x2_1+1)) (wrap64 (x3_1 - 1)))=some r:=by first|(rw [hy1107];with_reducible exact H)|(have H2_:=(Option.bind_some _ _).symm.trans H;rw [hy1107];with_reducible exact H2_)|(have H2_:=(Option.bind_some _ _).symm.trans H;with_reducible exact H2_)|with_reducible exact H|(rw [hy1107];exact H)|exact H
        have Ny1107:=Aside0.mk hy1107;clear hy1107;have H':=Aside0.mk H;clear H
        try go_wp2
        replace HO_0:=Aside0.mk (Kd.R_drew HO_0.out);replace HK:=Aside0.mk (Kept.drew HK.out);replace HB:=Aside0.mk (Qo HB.out);have p1104:0≤(x3_1:Int):=of_decide_eq_true (by first|(with_reducible assumption)|assumption);have q1104:x3_1<(x0_1.length:Int):=of_decide_eq_true (by first|(with_reducible assumption)|assumption);obtain ⟨ad1104,e1104,hx1104_0⟩:=Kd.at_int (Kd.R_reads' HO_0.out).2.2 x3_1 p1104 q1104;cases e1104;replace p1104:=eq_true p1104;replace q1104:=eq_true q1104;have p1105:0≤(x2_1:Int):=of_decide_eq_true (by first|(with_reducible assumption)|assumption);have q1105:x2_1<(x0_1.length:Int):=of_decide_eq_true (by first|(with_reducible assumption)|assumption);obtain ⟨ad1105,e1105,hx1105_0⟩:=Kd.at_int (Kd.R_reads' HO_0.out).2.2 x2_1 p1105 q1105;obtain rfl:ad1104=ad1105:=(by injection e1105)
        replace p1105:=eq_true p1105;replace q1105:=eq_true q1105;have p8:0≤(x2_1:Int):=of_decide_eq_true (by first|(with_reducible assumption)|assumption);have q8:(x2_1:Int)<((x0_1.length:Int):Int):=of_decide_eq_true (by first|(with_reducible assumption)|assumption);obtain ⟨go8,co8,eo8,gb8,gl8,cl8,HG8⟩:=Kd.R_form HO_0.out (by omega)
        (first|cases eo8|(injection eo8 with ea_ en_ ec_;(first|subst ea_|(injection ea_ with ea_;subst ea_));subst ec_;clear en_))
        have GB8:=Aside0.mk gb8;have GG8:=Aside0.mk HG8;clear gb8 gl8 HG8;have HMgo8:=Aside0.mk (show (P0_ go8∨w.heap.size≤go8) from (HO_0.out.1 _ rfl))
        (first|simp only [Qer] at hx1104_0|skip)
        (first|simp only [Qer] at hx1105_0|skip)
        obtain ⟨hx8_0,hf8_0⟩:=Kd.R_celln 0 HO_0.out (x2_1:Int) p8 q8;replace p8:=eq_true p8;replace q8:=eq_true q8;have HP11:=Kd.R_putn HO_0.out (x2_1:Int) (rd x0_1 x3_1);rw [←Ny1106.out] at HP11;have HQ11:=Aside0.mk HP11;clear HP11;have p9:0≤(x3_1:Int):=of_decide_eq_true (by first|(with_reducible assumption)|assumption);have q9:(x3_1:Int)<((x0_1.length:Int):Int):=of_decide_eq_true (by first|(with_reducible assumption)|assumption);obtain ⟨hx9_0,hf9_0⟩:=Kd.R_celln 0 HQ11.out (x3_1:Int) p9 q9;replace p9:=eq_true p9;replace q9:=eq_true q9;have HP12:=Kd.R_putn HQ11.out (x3_1:Int) (rd x0_1 x2_1);rw [←Ny1107.out] at HP12;have HQ12:=Aside0.mk HP12;clear HP12;refine sU (n:=16) (S:=fun w'=>w'.cell? ⟨go8,(x3_1).toNat,none⟩=some (.int .i64 (rd x0_1 x3_1))∧w'.cell? ⟨go8,(x2_1).toNat,none⟩=some (.int .i64 (rd x0_1 x2_1))) (ds:= [13,15]) ⟨hx1104_0,hx1105_0⟩ (fun hHeld=> ?_);refine Qeb Q6.tab3 Q6.bits3 (fun HT_ HW_=> ?_);generalize wr.drew=w10 at HO_0 HK HB GG8 HQ11 HQ12 hf8_0 hf9_0 hx1104_0 hx1105_0 hx8_0 hx9_0 hHeld ⊢;refine pU 0 14 ?_;refine pU 1 15 ?_;refine pU 2 16 ?_;refine pU 3 17 ?_;refine pU 4 18 ?_;refine pU 5 19 ?_;refine pU 6 20 ?_;refine pU 8 22 ?_;refine pU 9 23 ?_;refine pU 10 24 ?_;refine tW 7 21 hHeld ?_;refine tW 11 25 hHeld ?_;refine pU 12 26 ?_;refine lU 13 none fun K hK=> ?_
        refine sK ?_;refine hK.out _ _ ?_;clear hK K;refine pU 14 27 ?_;refine lU 15 none fun K hK=> ?_
        refine sK ?_;refine hK.out _ _ ?_;clear hK K;refine dU ?_
        try go_wp2
        (try simp only [←hl0_1])
        go_roundg k1
        case measure=>have:=HK1.out;omega
        case rel=>exact ⟨(y1107),(wrap64 (x2_1+1)),(wrap64 (x3_1 - 1)),(by first|rfl|(simp;done)|(simp [*];done)),(by first|rfl|(simp;done)|(simp [*];done)),H',⟨by have:=HK1.out;omega⟩,⟨by (try simp only [hl0_1]);(with_reducible repeat (first|apply Kd.R_alloc|apply Kd.R_drewN|apply Kd.R_drew));exact HQ12.out⟩,⟨by repeat (first|(with_reducible first|exact HK.out|apply Kept.alloc|apply Kept.drewN|apply Kept.drew|refine Kept.setCell ?_ HMgo8.out _|refine Kept.setCell ?_ HMgo8.out _)|exact HK.out)⟩,⟨by repeat (first|(with_reducible first|exact HB.out|apply Qk|apply Qi|apply Qo|refine Qx ?_ GB8.out|refine Qx ?_ GB8.out)|exact HB.out)⟩⟩
       ·
        rw [if_neg c7] at H;exact absurd H (by simp)
      ·
       rw [if_neg c6] at H;exact absurd H (by simp)
     ·
      rw [if_neg c5] at H;exact absurd H (by simp)
    ·
     rw [if_neg c4] at H;exact absurd H (by simp)
   ·
    rw [if_neg c3] at H;have c3b0:=decide_eq_false c3;clear c3;obtain rfl:=Option.some.inj H;go_wp2
    first|go_end0|((try simp only [Exit.inBlock,Exit.then]);refine bodyPost_ret (results_none rfl _ _ _) rfl ?_)
    exact ⟨by first|rfl|(simp [Qd,Qe] <;>rfl)|(simp [*,Qd,Qe] <;>rfl),(by first|exact (uR HO_0)|(simp only [hl0_1];exact (uR HO_0))),uB HB,by repeat (first|(with_reducible first|exact HK.out|apply Kept.alloc|apply Kept.drewN|apply Kept.drew)|exact HK.out)⟩
def Qd0.f (k : Nat) (l0 : List Int) : Option (List Int) := (Qdl.f l0).bind fun t1108 => ((Q6.f k t1108).bind fun t1111 => (some t1111))
theorem Qd0.mono : ∀ a0 k, LeO (Qd0.f k a0) (Qd0.f (k + 1) a0) := by
 intro a0 k;unfold Qd0.f
 repeat' (with_reducible first|apply Q6.mono|exact LeO.refl _|exact LeO.none _|refine LeO.ite ?_ ?_|refine LeO.bind ?_ (fun _=> ?_))
set_option maxHeartbeats 8000000 in
set_option maxRecDepth 100000 in
theorem Qd0.calls (k : Nat) (A0 : Option Addr) (c0 : Nat) (l0 : List Int) (r : List Int) (w : World) (hr0 : Kd.C (Kd.int .i64) w A0 l0.length l0) (hc0 : l0.length ≤ c0) (h : Qd0.f k l0 = some r) :
 Calls Tryz.prog 239 #[.slice A0 l0.length c0] w fun e w'=> ∃ v0_:Value,e= .returned (v0_)∧Kd.R (Kd.int .i64) 3 w' w.heap.size (fun _=>True) v0_ r∧Below w.heap.size w w':=by
 have HR0:=Aside0.mk hr0;have HC0:=Aside0.mk hc0;clear hr0 hc0;have HB:=Aside0.mk (Below.refl w.heap.size w);have H:((Qdl.f l0).bind fun t1108=>((Q6.f k t1108).bind fun t1111=>(some t1111)))=some r:=h;clear h;obtain ⟨t1108,A2,H⟩:=bs H;(try dsimp only at H)
 obtain ⟨t1111,A3,H⟩:=bs H;(try dsimp only at H)
 obtain rfl:=Option.some.inj H;go_enter Tryz.func239,Tryz.ntmps239;go_wp2_with (first|(refine gA (some 5) Tryz.func295 #[.slice A0 l0.length c0] ?_;(with_reducible refine (Qdl.calls _ _ l0 t1108 _ (uC HR0) HC0.out A2.out).mono ?_);rintro e w4 ⟨v1109,rfl,ho0,hb⟩;refine ⟨_,rfl,?_⟩;have HO1110:=Aside0.mk (Kd.R_lower ho0 (Qj (uB HB)));replace HB:=Aside0.mk (Qb (uB HB) hb);(try clear hb ho0);obtain ⟨Ao5,co5,eo5⟩:=Kd.R_slice HO1110.out;subst eo5)|(refine gA (some 7) Tryz.func308 #[.slice Ao5 t1108.length co5] ?_;(with_reducible refine (Q6.calls k (fun k_=>some k_=(.slice Ao5 t1108.length co5:Value).ownBlock) (.slice Ao5 t1108.length co5) t1108 t1111 w _ (uB HB) ?side2 A3.out).mono ?_);(case side2=>exact Kd.R_tight rfl HO1110.out);rintro e w6 ⟨rfl,hy0,hb,hkp⟩;refine ⟨_,rfl,?_⟩;replace HO1110:=Aside0.mk (Kd.R_reok rfl hy0 (fun k_ e_=>HO1110.out.1 k_ e_));replace HB:=Aside0.mk (hb);(try clear hb);(try clear hkp);(try clear hy0)))
 go_ret
 exact ⟨_,by first|rfl|(simp [Qd,Qe] <;>rfl)|(simp [*,Qd,Qe] <;>rfl),uR HO1110,uB HB⟩
def Qck.f (k : Nat) (l0_0 : List Int) (a1 : Int) : Option (Int × Bool) := (Qbx.f k l0_0 a1).bind fun t1113 => (if t1113 = true then ((Q1.f k l0_0).bind fun t1114 => ((Qd0.f k t1114).bind fun t1117 => ((Qp.f k l0_0 a1 t1117).bind fun t1120 => (some (t1120, true))))) else (some (0, false)))
theorem Qck.mono : ∀ a0 a1 k, LeO (Qck.f k a0 a1) (Qck.f (k + 1) a0 a1) := by
 intro a0 a1 k;unfold Qck.f
 repeat' (with_reducible first|apply Q1.mono|apply Qp.mono|apply Qd0.mono|apply Qbx.mono|exact LeO.refl _|exact LeO.none _|refine LeO.ite ?_ ?_|refine LeO.bind ?_ (fun _=> ?_))
def Qck.T3 : Bool × List (List Nat × List Nat) := (true, [([], []), ([], []), ([], []), ([2], [2]), ([3, 3], [3]), ([0, 1, 4, 4], [0, 1, 4]), ([5, 5, 0, 1, 2, 3, 4, 5], [5]), ([6, 0, 1, 2, 3, 4, 5, 6], [])])
def Qck.B3 : List Nat := [0, 0, 0, 4, 12, 31, 63, 127]
theorem Qck.tab3 : rtab .any (Qfj Tryz.f92 3) = Qck.T3 := by kernel_rfl
theorem Qck.bits3 : Qea Qck.T3.2 Qck.B3 = true := by kernel_rfl
set_option maxHeartbeats 8000000 in
set_option maxRecDepth 100000 in
theorem Qck.calls (k : Nat) (A0_0 : Option Addr) (c0_0 : Nat) (l0_0 : List Int) (a1 : Int) (r1 : Int) (r2 : Bool) (w : World) (hr0_0 : Kd.C (Kd.int .i64) w A0_0 l0_0.length l0_0) (hc0_0 : l0_0.length ≤ c0_0) (h : Qck.f k l0_0 a1 = some (r1, r2)) :
 Calls Tryz.prog 92 #[.agg #[.slice A0_0 l0_0.length c0_0], .int .i64 a1] w fun e w'=>e= .returned (.tuple #[.int .i64 r1, .bool r2])∧Below w.heap.size w w':=by
 have hu26:=Tryz.underlying26;have HR0_0:=Aside0.mk hr0_0;have HC0_0:=Aside0.mk hc0_0;clear hr0_0 hc0_0;have HB:=Aside0.mk (Below.refl w.heap.size w);have H:((Qbx.f k l0_0 a1).bind fun t1113=>(if t1113=true then ((Q1.f k l0_0).bind fun t1114=>((Qd0.f k t1114).bind fun t1117=>((Qp.f k l0_0 a1 t1117).bind fun t1120=>(some (t1120,true))))) else (some (0,false))))=some (r1,r2):=h;clear h;obtain ⟨t1113,A3,H⟩:=bs H;(try dsimp only at H)
 by_cases c4:t1113=true
 ·
  subst c4;rw [if_pos rfl] at H;obtain ⟨t1114,A5,H⟩:=bs H;(try dsimp only at H)
  obtain ⟨t1117,A6,H⟩:=bs H;(try dsimp only at H)
  obtain ⟨t1120,A7,H⟩:=bs H;(try dsimp only at H)
  simp only [Option.some.injEq,Prod.mk.injEq] at H;obtain ⟨rfl,rfl⟩:=H;go_enter Tryz.func92,Tryz.ntmps92
  try go_wp2_with (first|(refine bE (N:=2) (cs:= #[.slice A0_0 l0_0.length c0_0]) (t:=26) ?_;intro gb1112 hg w8 hbox hb;have BK1112:=Aside0.mk (hbox);have GW1112:=Aside0.mk ((gV hg (uB HB)));have GE1112:=GW1112;replace HB:=Aside0.mk (Qb (uB HB) hb);clear hb hbox hg;have hcz9_0:=bC BK1112;have hfz9_0:=Qf BK1112.out 0)|(refine gA (some 8) Tryz.func148 #[.agg #[.slice A0_0 l0_0.length c0_0], .int .i64 a1] ?_;(with_reducible refine (Qbx.calls k _ _ l0_0 a1 true _ (uD HR0_0 HB) HC0_0.out A3.out).mono ?_);rintro e w10 ⟨rfl,hb⟩;refine ⟨_,rfl,?_⟩;replace BK1112:=Aside0.mk (Qc (uK BK1112) hb);replace HB:=Aside0.mk (Qb (uB HB) hb);(try clear hb)))
  replace BK1112:=Aside0.mk (Ql BK1112.out);replace HB:=Aside0.mk (Qo HB.out);refine sU (n:=8) (S:=fun w'=>w'.cell? ⟨gb1112,0,none⟩=some (.slice A0_0 l0_0.length c0_0)) (ds:= []) ((Qcg BK1112.out 0).trans rfl) (fun hHeld=> ?_);refine Qeb Qck.tab3 Qck.bits3 (fun HT_ HW_=> ?_);generalize w10.drew=w11 at BK1112 HB hHeld ⊢;refine pU 1 11 ?_;refine tU 0 10 hHeld ?_;refine tU 2 12 hHeld ?_;refine oU 3 (some 13) fun K hK=> ?_
  refine Qe0 Tryz.func237 (by kernel_rfl) rfl #[.agg #[.slice A0_0 l0_0.length c0_0]] (by rfl) rfl rfl (by (try simp only [List.map_toArray,List.map_cons,List.map_nil]);first|done|rfl|(simp only [List.length_drop,List.length_take];rfl)) ?_
  with_reducible refine (Q1.calls k _ _ l0_0 t1114 _ ?side1 ?side2 A5.out).mono ?_
  (case side1=>repeat (first|exact (Kd.C_below HR0_0.out HB.out)|(with_reducible refine Kd.C_alloc ?_ _)|(with_reducible refine Kd.C_drewN ?_ _)|(with_reducible refine Kd.C_drew ?_)))
  (case side2=>exact HC0_0.out)
  rintro e w12 ⟨v1115,rfl,ho0,hb⟩;refine ⟨_,rfl,?_⟩;have HO1116:=Aside0.mk (Kd.R_lower ho0 (Qj (uB HB)));replace BK1112:=Aside0.mk (Qc (uK BK1112) hb);replace HB:=Aside0.mk (Qb (uB HB) hb)
  skip
  skip
  skip
  skip
  skip
  obtain ⟨Ao13,co13,eo13⟩:=Kd.R_slice HO1116.out
  (first|subst eo13|(injection eo13 with f1_ f2_ f3_;have f4_:=f1_.symm;have f5_:=f3_.symm;clear f1_ f2_ f3_;subst f4_;subst f5_))
  refine hK.out _ _ ((Qcg BK1112.out 0).trans rfl) (fun hHeld=> ?_);clear hK K;refine nU 13 ?_;refine oU 4 (some 14) fun K hK=> ?_
  refine Qe0 Tryz.func239 (by kernel_rfl) rfl #[.slice Ao13 t1114.length co13] (by rfl) rfl rfl (by (try simp only [List.map_toArray,List.map_cons,List.map_nil]);first|done|rfl|(simp only [List.length_drop,List.length_take];rfl)) ?_
  with_reducible refine (Qd0.calls k _ _ t1114 t1117 _ ?side1 ?side2 A6.out).mono ?_
  (case side1=>repeat (first|exact (Kd.R_reads' HO1116.out).2.2|(with_reducible refine Kd.C_alloc ?_ _)|(with_reducible refine Kd.C_drewN ?_ _)|(with_reducible refine Kd.C_drew ?_)))
  (case side2=>exact (Kd.R_reads' HO1116.out).2.1)
  rintro e w14 ⟨v1118,rfl,ho0,hb⟩;refine ⟨_,rfl,?_⟩;have HO1119:=Aside0.mk (Kd.R_lower (Kd.R_new' ho0 (Kd.R_lt (uR HO1116))) (Qj (uB HB)));replace HO1116:=Aside0.mk (Kd.R_elder' (uR HO1116) (Kd.R_base ho0) hb);replace BK1112:=Aside0.mk (Qc (uK BK1112) hb);replace HB:=Aside0.mk (Qb (uB HB) hb)
  skip
  skip
  skip
  skip
  skip
  obtain ⟨Ao15,co15,eo15⟩:=Kd.R_slice HO1119.out
  (first|subst eo15|(injection eo15 with f1_ f2_ f3_;have f4_:=f1_.symm;have f5_:=f3_.symm;clear f1_ f2_ f3_;subst f4_;subst f5_))
  refine hK.out _ _ ((Qcg BK1112.out 0).trans rfl) (fun hHeld=> ?_);clear hK K;refine nU 14 ?_;refine oU 5 (some 15) fun K hK=> ?_
  refine Qe0 Tryz.func149 (by kernel_rfl) rfl #[.agg #[.slice A0_0 l0_0.length c0_0], .int .i64 a1, .slice Ao15 t1117.length co15] (by rfl) rfl rfl (by (try simp only [List.map_toArray,List.map_cons,List.map_nil]);first|done|rfl|(simp only [List.length_drop,List.length_take];rfl)) ?_
  with_reducible refine (Qp.calls k _ _ l0_0 a1 _ _ t1117 t1120 _ ?side1 ?side2 ?side3 ?side4 A7.out).mono ?_
  (case side1=>repeat (first|exact (Kd.C_below HR0_0.out HB.out)|(with_reducible refine Kd.C_alloc ?_ _)|(with_reducible refine Kd.C_drewN ?_ _)|(with_reducible refine Kd.C_drew ?_)))
  (case side2=>exact HC0_0.out)
  (case side3=>repeat (first|exact (Kd.R_reads' HO1119.out).2.2|(with_reducible refine Kd.C_alloc ?_ _)|(with_reducible refine Kd.C_drewN ?_ _)|(with_reducible refine Kd.C_drew ?_)))
  (case side4=>exact (Kd.R_reads' HO1119.out).2.1)
  rintro e w16 ⟨rfl,hb⟩;refine ⟨_,rfl,?_⟩;replace HO1116:=Aside0.mk (Kd.R_below (uR HO1116) hb);replace HO1119:=Aside0.mk (Kd.R_below (uR HO1119) hb);replace BK1112:=Aside0.mk (Qc (uK BK1112) hb);replace HB:=Aside0.mk (Qb (uB HB) hb)
  skip
  skip
  skip
  skip
  refine hK.out _ _ ((Qcg BK1112.out 0).trans rfl) (fun hHeld=> ?_);clear hK K;refine nU 15 ?_;refine pU 6 4 ?_;refine pU 7 5 ?_;refine dU ?_
  try go_wp2
  go_ret2
  exact ⟨by first|rfl|(simp [Qd,Qe] <;>rfl)|(simp [*,Qd,Qe] <;>rfl),uB HB⟩
 ·
  replace c4:=Bool.eq_false_iff.mpr c4;subst c4;rw [if_neg (show ¬ (false=true) by decide)] at H;simp only [Option.some.injEq,Prod.mk.injEq] at H;obtain ⟨rfl,rfl⟩:=H;go_enter Tryz.func92,Tryz.ntmps92;go_wp2_with (first|(refine bE (N:=2) (cs:= #[.slice A0_0 l0_0.length c0_0]) (t:=26) ?_;intro gb1112 hg w17 hbox hb;have BK1112:=Aside0.mk (hbox);have GW1112:=Aside0.mk ((gV hg (uB HB)));have GE1112:=GW1112;replace HB:=Aside0.mk (Qb (uB HB) hb);clear hb hbox hg;have hcz18_0:=bC BK1112;have hfz18_0:=Qf BK1112.out 0)|(refine gA (some 8) Tryz.func148 #[.agg #[.slice A0_0 l0_0.length c0_0], .int .i64 a1] ?_;(with_reducible refine (Qbx.calls k _ _ l0_0 a1 false _ (uD HR0_0 HB) HC0_0.out A3.out).mono ?_);rintro e w19 ⟨rfl,hb⟩;refine ⟨_,rfl,?_⟩;replace BK1112:=Aside0.mk (Qc (uK BK1112) hb);replace HB:=Aside0.mk (Qb (uB HB) hb);(try clear hb)))
  go_ret2
  exact ⟨by first|rfl|(simp [Qd,Qe] <;>rfl)|(simp [*,Qd,Qe] <;>rfl),uB HB⟩
def Qd3.f (k : Nat) (l0_0 : List Int) (a1 : Int) : Option (Int × Bool) := (Qcl.f k l0_0 a1).bind fun t1122 => (if t1122 = true then ((Qbf.f k l0_0 a1 true).bind fun t1123 => (some (t1123, true))) else (some (0, false)))
theorem Qd3.mono : ∀ a0 a1 k, LeO (Qd3.f k a0 a1) (Qd3.f (k + 1) a0 a1) := by
 intro a0 a1 k;unfold Qd3.f
 repeat' (with_reducible first|apply Qbf.mono|apply Qcl.mono|exact LeO.refl _|exact LeO.none _|refine LeO.ite ?_ ?_|refine LeO.bind ?_ (fun _=> ?_))
set_option maxHeartbeats 8000000 in
set_option maxRecDepth 100000 in
theorem Qd3.calls (k : Nat) (A0_0 : Option Addr) (c0_0 : Nat) (l0_0 : List Int) (a1 : Int) (r1 : Int) (r2 : Bool) (w : World) (hr0_0 : Kd.C (Kd.int .i64) w A0_0 l0_0.length l0_0) (hc0_0 : l0_0.length ≤ c0_0) (h : Qd3.f k l0_0 a1 = some (r1, r2)) :
 Calls Tryz.prog 93 #[.agg #[.slice A0_0 l0_0.length c0_0], .int .i64 a1] w fun e w'=>e= .returned (.tuple #[.int .i64 r1, .bool r2])∧Below w.heap.size w w':=by
 have hu26:=Tryz.underlying26;have HR0_0:=Aside0.mk hr0_0;have HC0_0:=Aside0.mk hc0_0;clear hr0_0 hc0_0;have HB:=Aside0.mk (Below.refl w.heap.size w);have H:((Qcl.f k l0_0 a1).bind fun t1122=>(if t1122=true then ((Qbf.f k l0_0 a1 true).bind fun t1123=>(some (t1123,true))) else (some (0,false))))=some (r1,r2):=h;clear h;obtain ⟨t1122,A3,H⟩:=bs H;(try dsimp only at H)
 by_cases c4:t1122=true
 ·
  subst c4;rw [if_pos rfl] at H;obtain ⟨t1123,A5,H⟩:=bs H;(try dsimp only at H)
  simp only [Option.some.injEq,Prod.mk.injEq] at H;obtain ⟨rfl,rfl⟩:=H;go_enter Tryz.func93,Tryz.ntmps93;go_wp2_with (first|(refine bE (N:=2) (cs:= #[.slice A0_0 l0_0.length c0_0]) (t:=26) ?_;intro gb1121 hg w6 hbox hb;have BK1121:=Aside0.mk (hbox);have GW1121:=Aside0.mk ((gV hg (uB HB)));have GE1121:=GW1121;replace HB:=Aside0.mk (Qb (uB HB) hb);clear hb hbox hg;have hcz7_0:=bC BK1121;have hfz7_0:=Qf BK1121.out 0)|(refine gA (some 8) Tryz.func152 #[.agg #[.slice A0_0 l0_0.length c0_0], .int .i64 a1] ?_;(with_reducible refine (Qcl.calls k _ _ l0_0 a1 true _ (uD HR0_0 HB) HC0_0.out A3.out).mono ?_);rintro e w8 ⟨rfl,hb⟩;refine ⟨_,rfl,?_⟩;replace BK1121:=Aside0.mk (Qc (uK BK1121) hb);replace HB:=Aside0.mk (Qb (uB HB) hb);(try clear hb);have hcz9_0:=bC BK1121;have hfz9_0:=Qf BK1121.out 0)|(refine gA (some 12) Tryz.func238 #[.agg #[.slice A0_0 l0_0.length c0_0], .int .i64 a1, .bool true] ?_;(with_reducible refine (Qbf.calls k _ _ l0_0 a1 true t1123 _ (uD HR0_0 HB) HC0_0.out A5.out).mono ?_);rintro e w10 ⟨rfl,hb⟩;refine ⟨_,rfl,?_⟩;replace BK1121:=Aside0.mk (Qc (uK BK1121) hb);replace HB:=Aside0.mk (Qb (uB HB) hb);(try clear hb)))
  go_ret2
  exact ⟨by first|rfl|(simp [Qd,Qe] <;>rfl)|(simp [*,Qd,Qe] <;>rfl),uB HB⟩
 ·
  replace c4:=Bool.eq_false_iff.mpr c4;subst c4;rw [if_neg (show ¬ (false=true) by decide)] at H;simp only [Option.some.injEq,Prod.mk.injEq] at H;obtain ⟨rfl,rfl⟩:=H;go_enter Tryz.func93,Tryz.ntmps93;go_wp2_with (first|(refine bE (N:=2) (cs:= #[.slice A0_0 l0_0.length c0_0]) (t:=26) ?_;intro gb1121 hg w11 hbox hb;have BK1121:=Aside0.mk (hbox);have GW1121:=Aside0.mk ((gV hg (uB HB)));have GE1121:=GW1121;replace HB:=Aside0.mk (Qb (uB HB) hb);clear hb hbox hg;have hcz12_0:=bC BK1121;have hfz12_0:=Qf BK1121.out 0)|(refine gA (some 8) Tryz.func152 #[.agg #[.slice A0_0 l0_0.length c0_0], .int .i64 a1] ?_;(with_reducible refine (Qcl.calls k _ _ l0_0 a1 false _ (uD HR0_0 HB) HC0_0.out A3.out).mono ?_);rintro e w13 ⟨rfl,hb⟩;refine ⟨_,rfl,?_⟩;replace BK1121:=Aside0.mk (Qc (uK BK1121) hb);replace HB:=Aside0.mk (Qb (uB HB) hb);(try clear hb)))
  go_ret2
  exact ⟨by first|rfl|(simp [Qd,Qe] <;>rfl)|(simp [*,Qd,Qe] <;>rfl),uB HB⟩
def Qcp.f (k : Nat) (l0 : List Int) : Option (List Int) := (Q8.f k l0 0 0 7).bind fun bt624 => (some bt624.1)
theorem Qcp.mono : ∀ a0 k, LeO (Qcp.f k a0) (Qcp.f (k + 1) a0) := by
 intro a0 k;unfold Qcp.f
 repeat' (with_reducible first|apply Q8.mono|exact LeO.refl _|exact LeO.none _|refine LeO.ite ?_ ?_|refine LeO.bind ?_ (fun _=> ?_))
set_option maxHeartbeats 8000000 in
set_option maxRecDepth 100000 in
theorem Qcp.calls (k : Nat) (A0 : Option Addr) (c0 : Nat) (l0 : List Int) (r : List Int) (w : World) (hr0 : Kd.C (Kd.int .u8) w A0 l0.length l0) (hc0 : l0.length ≤ c0) (h : Qcp.f k l0 = some r) :
 Calls Tryz.prog 24 #[.slice A0 l0.length c0] w fun e w'=> ∃ v0_:Value,e= .returned (.agg #[v0_])∧Kd.R (Kd.int .i64) 3 w' w.heap.size (fun _=>True) v0_ r∧Below w.heap.size w w':=by
 have hu26:=Tryz.underlying26;have hu94:=Tryz.underlying94;have HR0:=Aside0.mk hr0;have HC0:=Aside0.mk hc0;clear hr0 hc0;have HB:=Aside0.mk (Below.refl w.heap.size w);have H:((Q8.f k l0 0 0 7).bind fun bt624=>(some bt624.1))=some r:=h;clear h;obtain ⟨⟨t624,t627,t628⟩,A2,H⟩:=bs H;(try dsimp only at H)
 obtain rfl:=Option.some.inj H;go_enter Tryz.func24,Tryz.ntmps24;go_wp2_with (first|((with_reducible refine Qb9 (N:=2) rfl ?_);refine Qes ?hg (N:=2) ?hd (cs:= #[.slice none 0 0]) (t:=26) ?hr ?_;(case hd=>rfl);(case hg=>rfl);(case hr=>first|(go_simp;done)|(go_simp;rfl));intro gb622 hg w3 hbox hb;have BK622:=Aside0.mk (hbox);have GW622:=Aside0.mk ((by rw [hg];exact (Qj (by repeat (first|(with_reducible first|exact HB.out|apply Qk|apply Qi|apply Qo)|exact HB.out))):w.heap.size≤gb622));have GE622:=GW622;replace HB:=Aside0.mk (Qb (by repeat (first|(with_reducible first|exact HB.out|apply Qk|apply Qi|apply Qo)|exact HB.out)) hb);clear hb hbox hg)|((with_reducible refine Qb9 (N:=6) rfl ?_);refine Qes ?hg (N:=6) ?hd (cs:= #[.slice A0 l0.length c0, .int .i64 0, .int .u64 0]) (t:=94) ?hr ?_;(case hd=>rfl);(case hg=>rfl);(case hr=>first|(go_simp;done)|(go_simp;rfl));intro gb623 hg w4 hbox hb;have HI623:=Aside0.mk ((⟨_,_,hbox,(by rw [hg];exact (Qj (by repeat (first|(with_reducible first|exact HB.out|apply Qk|apply Qi|apply Qo|refine Qx ?_ GE622.out)|exact HB.out))):w.heap.size≤gb623),HR0.out⟩:Qa w _ gb623 l0 0 0));have GW623:=Aside0.mk ((by rw [hg];exact (Qj (by repeat (first|(with_reducible first|exact HB.out|apply Qk|apply Qi|apply Qo|refine Qx ?_ GE622.out)|exact HB.out))):w.heap.size≤gb623));have GE623:=GW623;replace HB:=Aside0.mk (Qb (by repeat (first|(with_reducible first|exact HB.out|apply Qk|apply Qi|apply Qo|refine Qx ?_ GE622.out)|exact HB.out)) hb);have NB622_623:=Aside0.mk ((by rw [hg];exact Nat.ne_of_lt (Qb6 (g:=gb622) (o:= .cells #[.slice none 0 0] 26 (0,0)) (by (with_reducible repeat (first|refine Qn ?_ _|refine Ql ?_|refine Qm ?_ _));exact BK622.out)):gb622≠gb623));have NB623_622:=Aside0.mk ((by rw [hg];exact Nat.ne_of_gt (Qb6 (g:=gb622) (o:= .cells #[.slice none 0 0] 26 (0,0)) (by (with_reducible repeat (first|refine Qn ?_ _|refine Ql ?_|refine Qm ?_ _));exact BK622.out)):gb623≠gb622));replace BK622:=Aside0.mk (Qc (g:=gb622) (o:= .cells #[.slice none 0 0] 26 (0,0)) (by (with_reducible repeat (first|refine Qn ?_ _|refine Ql ?_|refine Qm ?_ _));exact BK622.out) hb);clear hb hbox hg)|((with_reducible refine Qdr (f:=164) rfl ?_);refine Qe2 (some 8) rfl rfl Tryz.func164 (by kernel_rfl) rfl #[.pointer (some ⟨gb623,0,none⟩), .int .i64 7] rfl (by (try simp only [List.map_toArray,List.map_cons,List.map_nil]);first|done|rfl|(simp only [List.length_drop,List.length_take];rfl)) ?_;(with_reducible refine (Q8.calls k gb623 l0 0 0 7 t624 t627 t628 w _ ?side1 ?side2 A2.out).mono ?_);(case side1=>repeat (first|(with_reducible first|exact HI623.out|apply Qa.alloc|apply Qa.drewN|apply Qa.drew|apply Qa.set_1|apply Qa.set_2|refine Qa.far ?_ NB623_622.out _)|exact HI623.out));(case side2=>repeat (first|(with_reducible first|exact HB.out|apply Qk|apply Qi|apply Qo|refine Qx ?_ (Qa.ge HI623.out)|refine Qx ?_ GE622.out)|exact HB.out));rintro e w5 ⟨v625,rfl,ho0,hi,hb,hk⟩;refine ⟨_,rfl,?_⟩;replace BK622:=Aside0.mk (Qg.blk hk (g':=gb622) (o:= .cells #[.slice none 0 0] 26 (0,0)) (by (with_reducible repeat (first|refine Qn ?_ _|refine Ql ?_|refine Qm ?_ _));exact BK622.out) NB622_623.out (by simp));have HO626:=Aside0.mk (Kd.R_lower ho0 (Qj (by repeat (first|(with_reducible first|exact HB.out|apply Qk|apply Qi|apply Qo|refine Qx ?_ (Qa.ge HI623.out)|refine Qx ?_ GE622.out)|exact HB.out))));replace HB:=Aside0.mk (hb);replace HI623:=Aside0.mk (hi);(try clear hb);(try clear hb2);(try clear hk);(try clear hi);(try clear ho0);obtain ⟨Ao6,co6,eo6⟩:=Kd.R_slice HO626.out;subst eo6;have hnb7:=NB622_623.out;have hnc7:=NB623_622.out;have hcz8_0:w5.cell? ⟨gb622,0,none⟩=some (.slice none 0 0):=(Qcg BK622.out 0).trans rfl;have hfz8_0:=Qf BK622.out 0));refine bodyPost_ret (results_cell_row rfl _ _ gb622 26 #[.slice Ao6 t624.length co6] (0,0) _ rfl (by (with_reducible repeat (first|refine Qn ?_ _|refine Ql ?_|refine Qm ?_ _));refine Qcw (cs:= #[.slice none 0 0]) ?_ 0 _ rfl;(with_reducible repeat (first|refine Qn ?_ _|refine Ql ?_|refine Qm ?_ _));exact BK622.out) Tryz.underlying26 rfl (by kernel_rfl)) rfl ?_;exact ⟨_,by first|rfl|(simp [Qd,Qe] <;>rfl)|(simp [*,Qd,Qe] <;>rfl),by (with_reducible repeat (first|apply Kd.R_alloc|apply Kd.R_drewN|apply Kd.R_drew));exact Kd.R_mono (Kd.R_far (p:=⟨gb622,0,none⟩) (Kd.R_types HO626.out BK622.out (by decide)) (fun _ hk=>hk.2) (.slice Ao6 t624.length co6)) (fun _ hk=>trivial),(Qa.vB HB)⟩
def Qcy.f (k : Nat) (l0 : List Int) : Option (List Int) := (Qcp.f k l0).bind fun t1125 => (some t1125)
theorem Qcy.mono : ∀ a0 k, LeO (Qcy.f k a0) (Qcy.f (k + 1) a0) := by
 intro a0 k;unfold Qcy.f
 repeat' (with_reducible first|apply Qcp.mono|exact LeO.refl _|exact LeO.none _|refine LeO.ite ?_ ?_|refine LeO.bind ?_ (fun _=> ?_))
set_option maxHeartbeats 8000000 in
set_option maxRecDepth 100000 in
theorem Qcy.calls (k : Nat) (A0 : Option Addr) (c0 : Nat) (l0 : List Int) (r : List Int) (w : World) (hr0 : Kd.C (Kd.int .u8) w A0 l0.length l0) (hc0 : l0.length ≤ c0) (h : Qcy.f k l0 = some r) :
 Calls Tryz.prog 94 #[.slice A0 l0.length c0] w fun e w'=> ∃ v0_:Value,e= .returned (.agg #[v0_])∧Kd.R (Kd.int .i64) 3 w' w.heap.size (fun _=>True) v0_ r∧Below w.heap.size w w':=by
 have hu26:=Tryz.underlying26;have HR0:=Aside0.mk hr0;have HC0:=Aside0.mk hc0;clear hr0 hc0;have HB:=Aside0.mk (Below.refl w.heap.size w);have H:((Qcp.f k l0).bind fun t1125=>(some t1125))=some r:=h;clear h;obtain ⟨t1125,A2,H⟩:=bs H;(try dsimp only at H)
 obtain rfl:=Option.some.inj H;go_enter Tryz.func94,Tryz.ntmps94;go_wp2_with (first|(refine bE (N:=2) (cs:= #[.slice none 0 0]) (t:=26) ?_;intro gb1124 hg w3 hbox hb;have BK1124:=Aside0.mk (hbox);have GW1124:=Aside0.mk ((gV hg (uB HB)));have GE1124:=GW1124;replace HB:=Aside0.mk (Qb (uB HB) hb);clear hb hbox hg)|(refine gA (some 4) Tryz.func24 #[.slice A0 l0.length c0] ?_;(with_reducible refine (Qcp.calls k _ _ l0 t1125 _ (uD HR0 HB) HC0.out A2.out).mono ?_);rintro e w4 ⟨v1126,rfl,ho0,hb⟩;refine ⟨_,rfl,?_⟩;have HO1127:=Aside0.mk (Kd.R_lower ho0 (Qj (uB HB)));replace BK1124:=Aside0.mk (Qc (uK BK1124) hb);replace HB:=Aside0.mk (Qb (uB HB) hb);(try clear hb ho0);obtain ⟨Ao5,co5,eo5⟩:=Kd.R_slice HO1127.out;subst eo5;have hcz6_0:=bC BK1124;have hfz6_0:=Qf BK1124.out 0));refine bodyPost_ret (results_cell_row rfl _ _ gb1124 26 #[.slice Ao5 t1125.length co5] (0,0) _ rfl (by (with_reducible repeat (first|refine Qn ?_ _|refine Ql ?_|refine Qm ?_ _));refine Qcw (cs:= #[.slice none 0 0]) ?_ 0 _ rfl;(with_reducible repeat (first|refine Qn ?_ _|refine Ql ?_|refine Qm ?_ _));exact BK1124.out) Tryz.underlying26 rfl (by kernel_rfl)) rfl ?_;exact ⟨_,by first|rfl|(simp [Qd,Qe] <;>rfl)|(simp [*,Qd,Qe] <;>rfl),by (with_reducible repeat (first|apply Kd.R_alloc|apply Kd.R_drewN|apply Kd.R_drew));exact Kd.R_mono (Kd.R_far (p:=⟨gb1124,0,none⟩) (Kd.R_types HO1127.out BK1124.out (by decide)) (fun _ hk=>hk.2) (.slice Ao5 t1125.length co5)) (fun _ hk=>trivial),(vB HB)⟩
end Go.Proofs.YtkgngggppcmpfaaGreat.L
end
section
namespace Go.Proofs.YtkgngggppcmpfaaGreat.L
open Go.RowKit Go.Proofs.YtkgngggppcmpfaaGreatW.PrintWords Go.Proofs.YtkgngggppcmpfaaGreatW.PrintLast Go.Proofs.YtkgngggppcmpfaaGreatW.PrintMore
attribute [local go_sem] Q2 Q4 Qbb Qbc Qt Qu Q3 Q5
set_option linter.unusedVariables false
set_option linter.unusedSimpArgs false
def Qcx.f (k : Nat) (l0 : List Int) : Option (List Int × Bool) := (Qc4.f k l0).bind fun t => if t = true then (Q1.f k l0).bind fun wd => (Qb0.f k l0).bind fun s => if s.length ≤ 9223372036854775806 then (Qw.f k (fun x => Qp.f k l0 x wd) s).bind fun cy => (Qbr.f k cy).bind fun ls => (Qc7.f ls).bind fun q => some (q, true) else none else some ([], false)
theorem Qcx.mono : ∀ a0 k, LeO (Qcx.f k a0) (Qcx.f (k + 1) a0) := fun l0 k =>
 LeO.bind (Qc4.mono _ _) fun t=>LeO.ite (LeO.bind (Q1.mono _ _) fun wd=>LeO.bind (Qb0.mono _ _) fun s=>LeO.ite (LeO.bind (Qw.mono (fun x=>Qp.mono _ _ _ _) k s) fun cy=>LeO.bind (Qbr.mono _ _) fun ls=>LeO.refl _) (LeO.refl _)) (LeO.refl _)
open Go.Proofs.YtkgngggppcmpfaaGreat.X in
set_option maxHeartbeats 800000 in
set_option maxRecDepth 100000 in
theorem Qcx.lit (k : Nat) (A0 : Option Addr) (c0 : Nat) (l0 : List Int) (A2 : Option Addr) (c2 : Nat) (wd : List Int) (s v : Int) (B1 B2 : Nat) (w : World) (hr0 : Kd.C (Kd.int .i64) w A0 l0.length l0) (hc0 : l0.length ≤ c0) (hr2 : Kd.C (Kd.int .i64) w A2 wd.length wd) (hc2 : wd.length ≤ c2)
 (q1:w.cell? ⟨B1,0,none⟩=some (.slice A0 l0.length c0)) (q2:w.cell? ⟨B2,0,none⟩=some (.slice A2 wd.length c2)) (h:Qp.f k l0 s wd=some v):
 Qw.Fvb Tryz.prog 241 #[] #[.pointer (some ⟨B1,0,none⟩), .pointer (some ⟨B2,0,none⟩)] (.int .i64 s) (.int .i64 v) w:=by
 intro W hb;have p1:=Qdx hb q1;have p2:=Qdx hb q2;have HR:=Aside0.mk (Kd.C_below hr0 hb);have HR2:=Aside0.mk (Kd.C_below hr2 hb);have HC:=Aside0.mk hc0;have HC2:=Aside0.mk hc2;have HV:=Aside0.mk h;clear h hr0 hr2 hb hc0 hc2 q1 q2;have hu:=Tryz.underlying26;show Calls Tryz.prog 241 #[.int .i64 s, .pointer (some ⟨B1,0,none⟩), .pointer (some ⟨B2,0,none⟩)] W _
 go_enter Tryz.func241,Tryz.ntmps241;go_wp2_with fail;refine (Qp.calls k _ _ l0 s _ _ wd v _ HR.out HC.out HR2.out HC2.out HV.out).mono ?_;rintro e w1 ⟨rfl,hb⟩;have B1:=Aside0.mk hb;clear hb;go_wp2
 go_ret
 exact ⟨rfl,B1.out⟩
open Go.Proofs.YtkgngggppcmpfaaGreat.X in
set_option maxHeartbeats 1600000 in
set_option maxRecDepth 100000 in
theorem Qcx.calls (k : Nat) (A0_0 : Option Addr) (c0_0 : Nat) (l0_0 : List Int) (r1 : List Int) (r2 : Bool) (w : World) (hr0_0 : Kd.C (Kd.int .i64) w A0_0 l0_0.length l0_0) (hc0_0 : l0_0.length ≤ c0_0) (h : Qcx.f k l0_0 = some (r1, r2)) :
 Calls Tryz.prog 95 #[.agg #[.slice A0_0 l0_0.length c0_0]] w fun e w'=> ∃ v0_:Value,e= .returned (.tuple #[v0_, .bool r2])∧Kd.R (Kd.int .i64) 3 w' w.heap.size (fun _=>True) v0_ r1∧Below w.heap.size w w':=by
 have HR:=Aside0.mk hr0_0;have HC:=Aside0.mk hc0_0;clear hr0_0 hc0_0;unfold Qcx.f at h;obtain ⟨t,ht,h⟩:=Option.bind_eq_some_iff.mp h;have HT:=Aside0.mk ht;clear ht;have hu:=Tryz.underlying26;have B0:=Aside0.mk (Qk (Below.refl w.heap.size w) (.cells #[.slice A0_0 l0_0.length c0_0] 26));cases t with
 |false=>
  have h':some (([] :List Int),false)=some (r1,r2):=h;injection h' with h'
  injection h' with h1 h2
  subst h1 h2;clear h;go_enter Tryz.func95,Tryz.ntmps95;go_wp2_with fail;refine (Qc4.calls k _ _ l0_0 false _ (Kd.C_below HR.out B0.out) HC.out HT.out).mono ?_;rintro e w1 ⟨rfl,hb⟩;have B1:=Aside0.mk (Qdc B0.out hb);clear hb;go_wp2
  go_ret2
  exact ⟨_,rfl,Kd.R_nil _ _ _ _ _,B1.out⟩
 |true=>
  rw [if_pos rfl] at h;obtain ⟨wd,hwd,h⟩:=Option.bind_eq_some_iff.mp h;obtain ⟨s,hs,h⟩:=Option.bind_eq_some_iff.mp h
  split at h
  ·
   rename_i hl;obtain ⟨cy,hcy,h⟩:=Option.bind_eq_some_iff.mp h;obtain ⟨ls,hls,h⟩:=Option.bind_eq_some_iff.mp h;obtain ⟨q,hq,h⟩:=Option.bind_eq_some_iff.mp h;injection h with h
   injection h with h1 h2
   subst h1 h2;have HW:=Aside0.mk hwd;have HS:=Aside0.mk hs;have HL:=Aside0.mk hl;have HCY:=Aside0.mk hcy;have HLS:=Aside0.mk hls;have HQ:=Aside0.mk hq;clear hwd hs hl hcy hls hq;go_enter Tryz.func95,Tryz.ntmps95;go_wp2_with fail;refine (Qc4.calls k _ _ l0_0 true _ (Kd.C_below HR.out B0.out) HC.out HT.out).mono ?_;rintro e w1 ⟨rfl,hb⟩;have x1:=Qdx hb (show (w.alloc (.cells #[.slice A0_0 l0_0.length c0_0] 26)).cell? ⟨w.heap.size,0,none⟩=some (.slice A0_0 l0_0.length c0_0) by simp);have B1:=Aside0.mk (Qdc B0.out hb);clear hb;go_wp2_with fail;refine (Q1.calls k _ _ l0_0 wd _ (Kd.C_below HR.out B1.out) HC.out HW.out).mono ?_;rintro e w3 ⟨v0,rfl,hR,hb⟩;obtain ⟨A2,c2,rfl,hl2,hC2⟩:=Kd.R_reads hR;have x3:=Aside0.mk (Qdx hb x1);have B3:=Aside0.mk (Qdc B1.out hb);have C3:=Aside0.mk hC2;have L3:=Aside0.mk hl2;clear hb x1 hR hC2 hl2;have x4: ∀ o,(World.alloc w3 o).cell? ⟨w.heap.size,0,none⟩=some (.slice A0_0 l0_0.length c0_0):=fun o=>Qdx (Qk (Below.refl w3.heap.size w3) o) x3.out
   go_wp2_with fail;obtain ⟨W4,hW4⟩: ∃ W4,W4=w3.alloc (.cells #[.slice A2 wd.length c2] 24):=⟨_,rfl⟩
   rw [←hW4];have B4:=Aside0.mk (show Below w.heap.size w W4 by rw [hW4];exact Qk B3.out _);have C4:=Aside0.mk (show Kd.C (Kd.int .i64) W4 A2 wd.length wd by rw [hW4];exact Kd.C_alloc C3.out _);have y1:=Aside0.mk (show W4.cell? ⟨w.heap.size,0,none⟩=some (.slice A0_0 l0_0.length c0_0) by rw [hW4];exact x4 _);have y2:=Aside0.mk (show W4.cell? ⟨w3.heap.size,0,none⟩=some (.slice A2 wd.length c2) by rw [hW4];simp);generalize w3.heap.size=b3 at y2 ⊢;clear hW4 x4 x3 C3 B3;refine (Qb0.calls k _ _ l0_0 s _ (Kd.C_below HR.out B4.out) HC.out HS.out).mono ?_;rintro e w5 ⟨v1,rfl,hR1,hb1⟩;obtain ⟨A5,c5,rfl,hl5,hC5⟩:=Kd.R_reads hR1;have C5:=Aside0.mk hC5;have B5:=Aside0.mk hb1;clear hR1 hb1 hC5 hl5;go_wp2_with fail;refine (Qw.calls k A5 c5 s 241 #[] #[.pointer (some ⟨w.heap.size,0,none⟩), .pointer (some ⟨b3,0,none⟩)] (fun x=>Qp.f k l0_0 x wd) cy _ (Qga Tryz.func241 (by kernel_rfl) rfl) C5.out HL.out (fun x y h=>Qcx.lit k A0_0 c0_0 l0_0 A2 c2 wd x y _ _ _ (Kd.C_below HR.out (Qdc B4.out B5.out)) HC.out (Kd.C_below C4.out B5.out) L3.out (Qdx B5.out y1.out) (Qdx B5.out y2.out) h) HCY.out).mono ?_;rintro e w6 ⟨v2,rfl,hR2,hb2⟩;obtain ⟨A6,c6,rfl,hl6,hC6⟩:=Kd.S_reads hR2;have B6:=Aside0.mk (Qdc (Qdc B4.out B5.out) hb2);have C6:=Aside0.mk hC6;have L6:=Aside0.mk hl6;clear hR2 hb2 hC6 hl6;go_wp2_with fail;refine (Qbr.calls k _ _ cy ls _ C6.out L6.out HLS.out).mono ?_;rintro e w7 ⟨v3,rfl,hR3,hb3⟩;obtain ⟨A7,c7,rfl,hl7,hC7⟩:=Kd.R_reads hR3;have B7:=Aside0.mk (Qdc B6.out hb3);have C7:=Aside0.mk hC7;have L7:=Aside0.mk hl7;clear hR3 hb3 hC7 hl7;go_wp2_with fail;refine (Qc7.calls _ _ ls q _ C7.out L7.out HQ.out).mono ?_;rintro e w8 ⟨v4,rfl,hR4,hb4⟩;have R8:=Aside0.mk (Kd.R_lower hR4 (show w.heap.size≤w7.heap.size from B7.out.size));have B8:=Aside0.mk (Qdc B7.out hb4);clear hR4 hb4;go_wp2
   go_ret2
   exact ⟨_,rfl,R8.out,B8.out⟩
  ·
   cases h
end Go.Proofs.YtkgngggppcmpfaaGreat.L
end
section
namespace Go.Proofs.YtkgngggppcmpfaaGreat.L
open Go.RowKit Go.Proofs.YtkgngggppcmpfaaGreatW.PrintWords Go.Proofs.YtkgngggppcmpfaaGreatW.PrintLast Go.Proofs.YtkgngggppcmpfaaGreatW.PrintMore Go.Proofs.YtkgngggppcmpfaaGreat.X
attribute [local go_sem] Q2 Q4 Qbb Qbc Qt Qu Q3 Q5
set_option linter.unusedVariables false
set_option linter.unusedSimpArgs false
def Qb2.l0 : Nat → List Int → Int → List Int → Option (List Int)
 |0,_,_,_=>none
 |k+1,x3,x4,x639000=>if x4<(shl .i64 1 (x639000.length:Int)) then ((Qby.f k x639000 x4).bind fun t639=>(if t639=true then (if x3.length<17592186044416 then (Qb2.l0 k (x3++ [x4]) (wrap64 (x4+1)) x639000) else (none)) else (Qb2.l0 k x3 (wrap64 (x4+1)) x639000))) else (some x3)
def Qb2.f (k : Nat) (l0_0 : List Int) : Option (List Int) := Qb2.l0 k ([] : List Int) 0 l0_0
theorem Qb2.mono_l : ∀ k, (∀ y0 y1 y2, LeO (Qb2.l0 k y0 y1 y2) (Qb2.l0 (k + 1) y0 y1 y2))
 |0=>fun _ _ _ r h=>by simp [Qb2.l0] at h
 |k+1=>by
  have ih0:=Qb2.mono_l k
  ·
   intro y0 y1 y2;unfold Qb2.l0
   repeat' first
   |(with_reducible exact ih0 _ _ _)
   |(with_reducible exact Qby.mono _ _ _)
   |(with_reducible exact LeO.refl _)
   |(with_reducible exact LeO.none _)
   |(with_reducible refine LeO.ite ?_ ?_)
   |(with_reducible refine LeO.bind ?_ (fun _=> ?_))
   |exact ih0 _ _ _
   |exact Qby.mono _ _ _
   |exact LeO.none _
   |refine LeO.ite ?_ ?_
   |refine LeO.bind ?_ (fun _=> ?_)
theorem Qb2.mono : ∀ a0 k, LeO (Qb2.f k a0) (Qb2.f (k + 1) a0) := by
 intro a0 k;have ih0:=Qb2.mono_l k;unfold Qb2.f
 repeat' (with_reducible first|apply ih0|apply Qby.mono|exact LeO.refl _|exact LeO.none _|refine LeO.ite ?_ ?_|refine LeO.bind ?_ (fun _=> ?_))
set_option maxHeartbeats 8000000 in
set_option maxRecDepth 100000 in
theorem Qb2.calls (k : Nat) (A0_0 : Option Addr) (c0_0 : Nat) (l0_0 : List Int) (r : List Int) (w : World) (hr0_0 : Kd.C (Kd.int .i64) w A0_0 l0_0.length l0_0) (hc0_0 : l0_0.length ≤ c0_0) (h : Qb2.f k l0_0 = some r) :
 Calls Tryz.prog 171 #[.agg #[.slice A0_0 l0_0.length c0_0]] w fun e w'=> ∃ v0_:Value,e= .returned (v0_)∧Kd.R (Kd.int .i64) 3 w' w.heap.size (fun _=>True) v0_ r∧Below w.heap.size w w':=by
 have hu26:=Tryz.underlying26;have HR0_0:=Aside0.mk hr0_0;have HC0_0:=Aside0.mk hc0_0;clear hr0_0 hc0_0;have HB:=Aside0.mk (Below.refl w.heap.size w);have H:(Qb2.l0 k ([] :List Int) 0 l0_0)=some r:=h;clear h;have H':=Aside0.mk H;clear H;go_enter Tryz.func171,Tryz.ntmps171;go_wp2_with (first|(refine bE (N:=1) (cs:= #[.slice A0_0 l0_0.length c0_0]) (t:=26) ?_;intro gb638 hg w2 hbox hb;have BK638:=Aside0.mk (hbox);have GW638:=Aside0.mk ((gV hg (uB HB)));have GE638:=GW638;replace HB:=Aside0.mk (Qb (uB HB) hb);clear hb hbox hg))
 go_loopg [3,4] k (fun kq v3 v4 w'=> ∃ (x3_1:List Int) (x4_1:Int),v4= .int .i64 x4_1∧Aside0 (Qb2.l0 kq x3_1 x4_1 l0_0=some r)∧Aside0 (kq≤k)∧Aside0 (Kd.R (Kd.int .i64) 3 w' w.heap.size (fun _=>True) v3 x3_1)∧Aside0 (w'.heap[gb638]? =some (.cells #[(.slice A0_0 l0_0.length c0_0)] 26 (0,0)))∧Aside0 (Below w.heap.size w w'))
 case atStart=>exact ⟨(([] :List Int)),(0),(by first|rfl|(simp;done)|(simp [*];done)),H',⟨Nat.le_refl _⟩,⟨by first|exact Kd.R_nil _ _ _ _ _|exact Kd.N_nil _ _ _ _ _|exact Kd.V_nil _ _ _ _ _|exact Kd.Q_nil _ _ _ _ _|exact Kd.S_nil _ _ _ _ _⟩,⟨uK BK638⟩,⟨uB HB⟩⟩
 case round=>
  clear H'
  try clear c1
  try clear p2
  obtain ⟨x3_1,x4_1,rfl,HA,HK1,HO_3,BK638,HB⟩:=hrel;cases gk with
  |zero=>exact absurd HA.out (by simp [Qb2.l0])
  |succ k1=>
   have H:=HA.out;clear HA;simp only [Qb2.l0] at H;obtain ⟨ji3,hji3⟩: ∃ j_:Int,(shl .i64 1 (l0_0.length:Int))=j_:=⟨_,rfl⟩
   replace H:(if x4_1<(ji3) then ((Qby.f k1 l0_0 x4_1).bind fun t639=>(if t639=true then (if x3_1.length<17592186044416 then (Qb2.l0 k1 (x3_1++ [x4_1]) (wrap64 (x4_1+1)) l0_0) else (none)) else (Qb2.l0 k1 x3_1 (wrap64 (x4_1+1)) l0_0))) else (some x3_1))=some r:=by first|(rw [hji3] at H;exact H)|(simp only [hji3] at H ⊢;exact H)
   have hji3_:(IntKind.i64.wrap (1*2 ^ min (l0_0.length:Int).toNat 64))=ji3:=hji3;have hji3z:(l0_0.length:Int)≤64→(IntKind.i64.wrap (1*2 ^ (l0_0.length:Int).toNat))=ji3:=Qef hji3;have hji3p:(IntKind.i64.wrap (1*2 ^ min l0_0.length 64))=ji3:=hji3_;have hji3q:(l0_0.length:Int)≤64→(IntKind.i64.wrap (1*2 ^ l0_0.length))=ji3:=hji3z;have hji3r:(IntKind.i64.wrap (2 ^ min l0_0.length 64))=ji3:=by have h_:=hji3p;rw [Int.one_mul] at h_;exact h_
   have hji3s:(l0_0.length:Int)≤64→(IntKind.i64.wrap (2 ^ l0_0.length))=ji3:=fun hle_=>by have h_:=hji3q hle_;rw [Int.one_mul] at h_;exact h_
   have hji3u:(IntKind.i64.wrap (2 ^ min (l0_0.length:Int).toNat 64))=ji3:=by have h_:=hji3_;rw [Int.one_mul] at h_;exact h_
   have hji3v:(l0_0.length:Int)≤64→(IntKind.i64.wrap (2 ^ (l0_0.length:Int).toNat))=ji3:=fun hle_=>by have h_:=hji3z hle_;rw [Int.one_mul] at h_;exact h_
   have hji3y:(wrap64 (1*2 ^ min (l0_0.length:Int).toNat 64))=ji3:=(Qcq _).symm.trans hji3_;have hji3x:(l0_0.length:Int)≤64→(wrap64 (1*2 ^ (l0_0.length:Int).toNat))=ji3:=fun h_=>(Qcq _).symm.trans (hji3z h_)
   by_cases c4:x4_1<(ji3)
   ·
    rw [if_pos c4] at H;have c4b0:=decide_eq_true c4;clear c4;obtain ⟨t639,A5,H⟩:=bs H;(try dsimp only at H)
    by_cases c6:t639=true
    ·
     subst c6;rw [if_pos rfl] at H
     by_cases c7:x3_1.length<17592186044416
     ·
      rw [if_pos c7] at H;have LMc7:=Aside0.mk c7;clear c7;obtain ⟨y640,hy640⟩: ∃ y_:List Int,y_=(x3_1++ [x4_1]):=⟨_,rfl⟩
      replace H:(Qb2.l0 k1 y640 (wrap64 (x4_1+1)) l0_0)=some r:=by first|(rw [hy640];with_reducible exact H)|(have H2_:=(Option.bind_some _ _).symm.trans H;rw [hy640];with_reducible exact H2_)|(have H2_:=(Option.bind_some _ _).symm.trans H;with_reducible exact H2_)|with_reducible exact H|(rw [hy640];exact H)|exact H
      have Ny640:=Aside0.mk hy640;clear hy640;have H':=Aside0.mk H;clear H;have hcz8_0:=bC BK638;have hfz8_0:=Qf BK638.out 0;go_wp2_with (first|(refine gA (some 15) Tryz.func278 #[.agg #[.slice A0_0 l0_0.length c0_0], .int .i64 x4_1] ?_;(with_reducible refine (Qby.calls k1 _ _ l0_0 x4_1 true _ (uD HR0_0 HB) HC0_0.out A5.out).mono ?_);rintro e w9 ⟨rfl,hb⟩;refine ⟨_,rfl,?_⟩;replace HO_3:=Aside0.mk (Kd.R_below (uR HO_3) hb);replace BK638:=Aside0.mk (Qc (uK BK638) hb);replace HB:=Aside0.mk (Qb (uB HB) hb);(try clear hb))|((with_reducible refine Qcj (b:= .append) (xs:= #[.tmp 16, .tmp 18]) rfl ?_);at_builtin;refine Kd.R_append (Kd.int .i64) (w0:=w) w.heap.size rfl (.tmp 16) (.tmp 18) 24 3 (.int .i64 0) 8 rfl Tryz.underlying24 Qeo rfl (by decide) (by omega) u3 x3_1 x4_1 [.int .i64 x4_1] (fun _=>True) (fun _=>False) rfl rfl ?aP (fun _ hk=>hk.elim) ?aF ?aO ?aB ?aS ?aL ?_;(case aP=>exact rfl);(case aB=>exact (uB HB));(case aF=>exact (fun _ _=>trivial));(case aO=>exact (uR HO_3));(case aS=>exact (Qj (uB HB)));(case aL=>have:=LMc7.out;omega);intro v641 w10 ho hb hg hat;rw [←Ny640.out] at ho;replace BK638:=Aside0.mk (Qdi (uK BK638) hg (Kd.R_ne HO_3.out BK638.out (by decide)));replace HB:=Aside0.mk (hb);have HO642:=Aside0.mk (ho);clear HO_3;clear ho hb hg hat));go_roundg k1
      case measure=>have:=HK1.out;omega
      case rel=>exact ⟨(y640),(wrap64 (x4_1+1)),(by first|rfl|(simp;done)|(simp [*];done)),H',⟨by have:=HK1.out;omega⟩,⟨uR HO642⟩,⟨uK BK638⟩,⟨uB HB⟩⟩
     ·
      rw [if_neg c7] at H;exact absurd H (by simp)
    ·
     replace c6:=Bool.eq_false_iff.mpr c6;subst c6;rw [if_neg (show ¬ (false=true) by decide)] at H;have H':=Aside0.mk H;clear H;have hcz11_0:=bC BK638;have hfz11_0:=Qf BK638.out 0;go_wp2_with (first|(refine gA (some 15) Tryz.func278 #[.agg #[.slice A0_0 l0_0.length c0_0], .int .i64 x4_1] ?_;(with_reducible refine (Qby.calls k1 _ _ l0_0 x4_1 false _ (uD HR0_0 HB) HC0_0.out A5.out).mono ?_);rintro e w12 ⟨rfl,hb⟩;refine ⟨_,rfl,?_⟩;replace HO_3:=Aside0.mk (Kd.R_below (uR HO_3) hb);replace BK638:=Aside0.mk (Qc (uK BK638) hb);replace HB:=Aside0.mk (Qb (uB HB) hb);(try clear hb)));go_roundg k1
     case measure=>have:=HK1.out;omega
     case rel=>exact ⟨(x3_1),(wrap64 (x4_1+1)),(by first|rfl|(simp;done)|(simp [*];done)),H',⟨by have:=HK1.out;omega⟩,⟨uR HO_3⟩,⟨uK BK638⟩,⟨uB HB⟩⟩
   ·
    rw [if_neg c4] at H;have c4b0:=decide_eq_false c4;clear c4;obtain rfl:=Option.some.inj H;have hcz13_0:=bC BK638;have hfz13_0:=Qf BK638.out 0;go_wp2
    go_ret
    exact ⟨_,by first|rfl|(simp [Qd,Qe] <;>rfl)|(simp only [←hji3];first|rfl|(simp [Qd,Qe] <;>rfl))|(simp [*,Qd,Qe] <;>rfl),uR HO_3,uB HB⟩
def Qcr.l0 : Nat → List Int → Int → Int → Option (List Int)
 |0,_,_,_=>none
 |k+1,x0,x1,x5=>if x5<(x0.length:Int) then (if 0≤x5 then (if (rd x0 x5)≤x1 then (Qcr.l0 k x0 x1 (wrap64 (x5+1))) else (if x5≤(x0.length:Int) then ((Qed.f (x0.take (x5:Int).toNat)).bind fun t1130=>(if t1130.length<17592186044416 then ((some (t1130++ [x1] :List Int)).bind fun y1133=>(if y1133.length+(x0.drop (x5:Int).toNat).length<17592186044416 then (some (y1133++(x0.drop (x5:Int).toNat))) else (none))) else (none))) else (none))) else (none)) else (if 0≤x5 then (if x5≤(x0.length:Int) then ((Qed.f (x0.take (x5:Int).toNat)).bind fun t1141=>(if t1141.length<17592186044416 then ((some (t1141++ [x1] :List Int)).bind fun y1144=>(if y1144.length+(x0.drop (x5:Int).toNat).length<17592186044416 then (some (y1144++(x0.drop (x5:Int).toNat))) else (none))) else (none))) else (none)) else (none))
def Qcr.f (k : Nat) (l0 : List Int) (a1 : Int) : Option (List Int) := Qcr.l0 k l0 a1 0
theorem Qcr.mono_l : ∀ k, (∀ y0 y1 y2, LeO (Qcr.l0 k y0 y1 y2) (Qcr.l0 (k + 1) y0 y1 y2))
 |0=>fun _ _ _ r h=>by simp [Qcr.l0] at h
 |k+1=>by
  have ih0:=Qcr.mono_l k
  ·
   intro y0 y1 y2;unfold Qcr.l0
   repeat' first
   |(with_reducible exact ih0 _ _ _)
   |(with_reducible exact LeO.refl _)
   |(with_reducible exact LeO.none _)
   |(with_reducible refine LeO.ite ?_ ?_)
   |(with_reducible refine LeO.bind ?_ (fun _=> ?_))
   |exact ih0 _ _ _
   |exact LeO.none _
   |refine LeO.ite ?_ ?_
   |refine LeO.bind ?_ (fun _=> ?_)
theorem Qcr.mono : ∀ a0 a1 k, LeO (Qcr.f k a0 a1) (Qcr.f (k + 1) a0 a1) := by
 intro a0 a1 k;have ih0:=Qcr.mono_l k;unfold Qcr.f
 repeat' (with_reducible first|apply ih0|exact LeO.refl _|exact LeO.none _|refine LeO.ite ?_ ?_|refine LeO.bind ?_ (fun _=> ?_))
set_option maxHeartbeats 8000000 in
set_option maxRecDepth 100000 in
theorem Qcr.calls (k : Nat) (A0 : Option Addr) (c0 : Nat) (l0 : List Int) (a1 : Int) (r : List Int) (w : World) (hr0 : Kd.C (Kd.int .i64) w A0 l0.length l0) (hc0 : l0.length ≤ c0) (h : Qcr.f k l0 a1 = some r) :
 Calls Tryz.prog 201 #[.slice A0 l0.length c0, .int .i64 a1] w fun e w'=> ∃ v0_:Value,e= .returned (v0_)∧Kd.R (Kd.int .i64) 3 w' w.heap.size (fun _=>True) v0_ r∧Below w.heap.size w w':=by
 have HR0:=Aside0.mk hr0;have HC0:=Aside0.mk hc0;clear hr0 hc0;have HB:=Aside0.mk (Below.refl w.heap.size w);have H:(Qcr.l0 k l0 a1 0)=some r:=h;clear h;have H':=Aside0.mk H;clear H;go_enter Tryz.func201,Tryz.ntmps201;go_wp2
 go_loopg [5] k (fun kq v5 w'=> ∃ (x5_1:Int),v5= .int .i64 x5_1∧Aside0 (Qcr.l0 kq l0 a1 x5_1=some r)∧Aside0 (kq≤k)∧Aside0 (Below w.heap.size w w'))
 case atStart=>exact ⟨(0),(by first|rfl|(simp;done)|(simp [*];done)),H',⟨Nat.le_refl _⟩,⟨uB HB⟩⟩
 case round=>
  clear H'
  try clear c2
  try clear p2
  obtain ⟨x5_1,rfl,HA,HK1,HB⟩:=hrel;cases gk with
  |zero=>exact absurd HA.out (by simp [Qcr.l0])
  |succ k1=>
   have H:=HA.out;clear HA;simp only [Qcr.l0] at H
   by_cases c3:x5_1<(l0.length:Int)
   ·
    rw [if_pos c3] at H;have c3b0:=decide_eq_true c3;clear c3
    by_cases c4:0≤x5_1
    ·
     rw [if_pos c4] at H;have c4b0:=decide_eq_true c4;clear c4
     by_cases c5:(rd l0 x5_1)≤a1
     ·
      rw [if_pos c5] at H;have c5b0:=decide_eq_true c5;clear c5;have H':=Aside0.mk H;clear H;have p1128:0≤(x5_1:Int):=of_decide_eq_true (by first|(with_reducible assumption)|assumption);have q1128:x5_1<(l0.length:Int):=of_decide_eq_true (by first|(with_reducible assumption)|assumption);obtain ⟨ad1128,e1128,hx1128_0⟩:=Kd.at_int HR0.out x5_1 p1128 q1128;cases e1128;replace hx1128_0:=(HB.out.cell (World.block_lt_of_cell? w _ hx1128_0)).trans hx1128_0;replace p1128:=eq_true p1128;replace q1128:=eq_true q1128;go_wp2;go_roundg k1
      case measure=>have:=HK1.out;omega
      case rel=>exact ⟨(wrap64 (x5_1+1)),(by first|rfl|(simp;done)|(simp [*];done)),H',⟨by have:=HK1.out;omega⟩,⟨uB HB⟩⟩
     ·
      rw [if_neg c5] at H;have c5b0:=decide_eq_false c5;clear c5;have c6b0:=eq_true (of_decide_eq_true (by first|(with_reducible assumption)|assumption):0≤x5_1)
      by_cases c7:x5_1≤(l0.length:Int)
      ·
       rw [if_pos c7] at H;have c7b0:=eq_true c7;have c7b1:=decide_eq_true c7;clear c7;obtain ⟨t1130,A8,H⟩:=bs H;(try dsimp only at H)
       by_cases c9:t1130.length<17592186044416
       ·
        rw [if_pos c9] at H;have LMc9:=Aside0.mk c9;clear c9;obtain ⟨y1133,hy1133⟩: ∃ y_:List Int,y_=(t1130++ [a1]):=⟨_,rfl⟩
        replace H:(if y1133.length+(l0.drop (x5_1:Int).toNat).length<17592186044416 then (some (y1133++(l0.drop (x5_1:Int).toNat))) else (none))=some r:=by first|(rw [hy1133];with_reducible exact H)|(have H2_:=(Option.bind_some _ _).symm.trans H;rw [hy1133];with_reducible exact H2_)|(have H2_:=(Option.bind_some _ _).symm.trans H;with_reducible exact H2_)|with_reducible exact H|(rw [hy1133];exact H)|exact H
        have Ny1133:=Aside0.mk hy1133;clear hy1133;have c10b0:=eq_true (of_decide_eq_true (by first|(with_reducible assumption)|assumption):0≤x5_1);have c11b0:=eq_true (of_decide_eq_true (by first|(with_reducible assumption)|assumption):x5_1≤(l0.length:Int))
        by_cases c12:y1133.length+(l0.drop (x5_1:Int).toNat).length<17592186044416
        ·
         rw [if_pos c12] at H;have LMc12:=Aside0.mk c12;clear c12;obtain ⟨y1137,hy1137⟩: ∃ y_:List Int,y_=(y1133++(l0.drop (x5_1:Int).toNat)):=⟨_,rfl⟩
         replace H:(some y1137)=some r:=by first|(rw [hy1137];with_reducible exact H)|(have H2_:=(Option.bind_some _ _).symm.trans H;rw [hy1137];with_reducible exact H2_)|(have H2_:=(Option.bind_some _ _).symm.trans H;with_reducible exact H2_)|with_reducible exact H|(rw [hy1137];exact H)|exact H
         have Ny1137:=Aside0.mk hy1137;clear hy1137;obtain rfl:=Option.some.inj H;have p1128:0≤(x5_1:Int):=of_decide_eq_true (by first|(with_reducible assumption)|assumption);have q1128:x5_1<(l0.length:Int):=of_decide_eq_true (by first|(with_reducible assumption)|assumption);obtain ⟨ad1128,e1128,hx1128_0⟩:=Kd.at_int HR0.out x5_1 p1128 q1128;cases e1128;replace hx1128_0:=(HB.out.cell (World.block_lt_of_cell? w _ hx1128_0)).trans hx1128_0;replace p1128:=eq_true p1128;replace q1128:=eq_true q1128;obtain ⟨i013,hi013,_,hsz13,_⟩:=info_parts Qeo;obtain ⟨hcut13,hA13,hC13⟩:=Qje (P:=Tryz.prog) (Value.int .i64) 0 24 3 .i64 Tryz.underlying24 hi013 hsz13 (some ad1128) c0 l0 x5_1 (of_decide_eq_true (by first|(with_reducible assumption)|assumption)) (of_decide_eq_true (by first|(with_reducible assumption)|assumption)) HC0.out;have HR1129:=Aside0.mk (Kd.C_of_reads (h1:=fun _=>rfl) (hA13 _ (Kd.reads_of_C HR0.out)));have HC1129:=Aside0.mk hC13;clear hA13 hC13 hi013 hsz13;go_wp2_with (first|((with_reducible refine Qdr (f:=273) rfl ?_);refine Qe2 (some 24) rfl rfl Tryz.func273 (by kernel_rfl) rfl #[.slice (some ad1128) (l0.take (x5_1:Int).toNat).length c0] rfl (by (try simp only [List.map_toArray,List.map_cons,List.map_nil]);first|done|(rw [show (l0.take (x5_1:Int).toNat).length=x5_1.toNat from (by rw [List.length_take];have h_:(x5_1:Int)≤(l0.length:Int):=of_decide_eq_true (by first|(with_reducible assumption)|assumption);omega)] <;>rfl)|rfl|(simp only [List.length_drop,List.length_take];rfl)) ?_;(with_reducible refine (Qed.calls _ _ (l0.take (x5_1:Int).toNat) t1130 _ ?side1 ?side2 A8.out).mono ?_);(case side1=>repeat (first|exact (Kd.C_below HR1129.out HB.out)|(with_reducible refine Kd.C_alloc ?_ _)|(with_reducible refine Kd.C_drewN ?_ _)|(with_reducible refine Kd.C_drew ?_)));(case side2=>exact HC1129.out);rintro e w14 ⟨v1131,rfl,ho0,hb⟩;refine ⟨_,rfl,?_⟩;have HO1132:=Aside0.mk (Kd.R_lower ho0 (Qj (by repeat (first|(with_reducible first|exact HB.out|apply Qk|apply Qi|apply Qo)|exact HB.out))));replace HB:=Aside0.mk (Qb (by repeat (first|(with_reducible first|exact HB.out|apply Qk|apply Qi|apply Qo)|exact HB.out)) hb);(try clear hb);(try clear hb2);(try clear hk);(try clear hi);(try clear ho0))|((with_reducible refine Qcj (b:= .append) (xs:= #[.tmp 24, .tmp 26]) rfl ?_);at_builtin;refine Kd.R_append (Kd.int .i64) (w0:=w) w.heap.size rfl (.tmp 24) (.tmp 26) 24 3 (.int .i64 0) 8 rfl Tryz.underlying24 Qeo rfl (by decide) (by omega) v1131 t1130 a1 [.int .i64 a1] (fun _=>True) (fun _=>False) rfl rfl ?aP (fun _ hk=>hk.elim) ?aF ?aO ?aB ?aS ?aL ?_;(case aP=>exact rfl);(case aB=>exact (by repeat (first|(with_reducible first|exact HB.out|apply Qk|apply Qi|apply Qo)|exact HB.out)));(case aF=>exact (fun _ _=>trivial));(case aO=>exact (by (with_reducible repeat (first|apply Kd.R_alloc|apply Kd.R_drewN|apply Kd.R_drew));exact HO1132.out));(case aS=>exact (Qj (by repeat (first|(with_reducible first|exact HB.out|apply Qk|apply Qi|apply Qo)|exact HB.out))));(case aL=>have:=LMc9.out;omega);intro v1134 w15 ho hb hg hat;rw [←Ny1133.out] at ho;replace HB:=Aside0.mk (hb);have HO1135:=Aside0.mk (ho);clear HO1132;clear ho hb hg hat;obtain ⟨i016,hi016,_,hsz16,_⟩:=info_parts Qeo;obtain ⟨A16,hcut16,hA16,hC16⟩:=Qjd (P:=Tryz.prog) (Value.int .i64) 0 24 3 .i64 Tryz.underlying24 hi016 hsz16 (some ad1128) c0 l0 x5_1 (of_decide_eq_true (by first|(with_reducible assumption)|assumption)) (of_decide_eq_true (by first|(with_reducible assumption)|assumption)) HC0.out;have HR1136:=Aside0.mk (Kd.C_of_reads (h1:=fun _=>rfl) (hA16 _ (Kd.reads_of_C HR0.out)));have HC1136:=Aside0.mk hC16;clear hA16 hC16 hi016 hsz16)|((with_reducible refine Qcj (b:= .append) (xs:= #[.tmp 28, .tmp 31]) rfl ?_);at_builtin;refine Kd.R_append_rows (Kd.int .i64) (w0:=w) w.heap.size rfl (.tmp 28) (.tmp 31) 24 3 (.int .i64 0) 8 rfl Tryz.underlying24 Qeo rfl (by decide) (by omega) v1134 y1133 (l0.drop (x5_1:Int).toNat) _ _ _ (fun _=>True) (fun _=>False) rfl rfl ?aO ?aR (fun _ _ h=>h) (fun _ h=>h.elim) ?aF ?aB ?aS ?aL ?_;(case aR=>first|(rw [←show (l0.drop (x5_1:Int).toNat).length=(l0.length - x5_1.toNat) from List.length_drop];repeat (first|exact (Kd.C_below HR1136.out HB.out)|(with_reducible refine Kd.C_alloc ?_ _)|(with_reducible refine Kd.C_drewN ?_ _)|(with_reducible refine Kd.C_drew ?_)))|(repeat (first|exact (Kd.C_below HR1136.out HB.out)|(with_reducible refine Kd.C_alloc ?_ _)|(with_reducible refine Kd.C_drewN ?_ _)|(with_reducible refine Kd.C_drew ?_))));(case aB=>exact (by repeat (first|(with_reducible first|exact HB.out|apply Qk|apply Qi|apply Qo)|exact HB.out)));(case aF=>exact (fun _ _=>trivial));(case aO=>exact (by (with_reducible repeat (first|apply Kd.R_alloc|apply Kd.R_drewN|apply Kd.R_drew));exact HO1135.out));(case aS=>exact (Qj (by repeat (first|(with_reducible first|exact HB.out|apply Qk|apply Qi|apply Qo)|exact HB.out))));(case aL=>have:=LMc12.out;have hlx_:=(show (l0.drop (x5_1:Int).toNat).length=(l0.length - x5_1.toNat) from List.length_drop);omega);intro v1138 w17 ho hb hg hat;rw [←Ny1137.out] at ho;replace HB:=Aside0.mk (hb);have HO1139:=Aside0.mk (ho);clear HO1135;clear ho hb hg hat))
         go_ret
         exact ⟨_,by first|rfl|(simp [Qd,Qe] <;>rfl)|(simp [*,Qd,Qe] <;>rfl),uR HO1139,uB HB⟩
        ·
         rw [if_neg c12] at H;exact absurd H (by simp)
       ·
        rw [if_neg c9] at H;exact absurd H (by simp)
      ·
       rw [if_neg c7] at H;exact absurd H (by simp)
    ·
     rw [if_neg c4] at H;exact absurd H (by simp)
   ·
    rw [if_neg c3] at H;have c3b0:=decide_eq_false c3;clear c3
    by_cases c18:0≤x5_1
    ·
     rw [if_pos c18] at H;have c18b0:=eq_true c18;have c18b1:=decide_eq_true c18;clear c18
     by_cases c19:x5_1≤(l0.length:Int)
     ·
      rw [if_pos c19] at H;have c19b0:=eq_true c19;have c19b1:=decide_eq_true c19;clear c19;obtain ⟨t1141,A20,H⟩:=bs H;(try dsimp only at H)
      by_cases c21:t1141.length<17592186044416
      ·
       rw [if_pos c21] at H;have LMc21:=Aside0.mk c21;clear c21;obtain ⟨y1144,hy1144⟩: ∃ y_:List Int,y_=(t1141++ [a1]):=⟨_,rfl⟩
       replace H:(if y1144.length+(l0.drop (x5_1:Int).toNat).length<17592186044416 then (some (y1144++(l0.drop (x5_1:Int).toNat))) else (none))=some r:=by first|(rw [hy1144];with_reducible exact H)|(have H2_:=(Option.bind_some _ _).symm.trans H;rw [hy1144];with_reducible exact H2_)|(have H2_:=(Option.bind_some _ _).symm.trans H;with_reducible exact H2_)|with_reducible exact H|(rw [hy1144];exact H)|exact H
       have Ny1144:=Aside0.mk hy1144;clear hy1144;have c22b0:=eq_true (of_decide_eq_true (by first|(with_reducible assumption)|assumption):0≤x5_1);have c23b0:=eq_true (of_decide_eq_true (by first|(with_reducible assumption)|assumption):x5_1≤(l0.length:Int))
       by_cases c24:y1144.length+(l0.drop (x5_1:Int).toNat).length<17592186044416
       ·
        rw [if_pos c24] at H;have LMc24:=Aside0.mk c24;clear c24;obtain ⟨y1148,hy1148⟩: ∃ y_:List Int,y_=(y1144++(l0.drop (x5_1:Int).toNat)):=⟨_,rfl⟩
        replace H:(some y1148)=some r:=by first|(rw [hy1148];with_reducible exact H)|(have H2_:=(Option.bind_some _ _).symm.trans H;rw [hy1148];with_reducible exact H2_)|(have H2_:=(Option.bind_some _ _).symm.trans H;with_reducible exact H2_)|with_reducible exact H|(rw [hy1148];exact H)|exact H
        have Ny1148:=Aside0.mk hy1148;clear hy1148;obtain rfl:=Option.some.inj H;obtain ⟨i025,hi025,_,hsz25,_⟩:=info_parts Qeo;obtain ⟨hcut25,hA25,hC25⟩:=Qje (P:=Tryz.prog) (Value.int .i64) 0 24 3 .i64 Tryz.underlying24 hi025 hsz25 A0 c0 l0 x5_1 (of_decide_eq_true (by first|(with_reducible assumption)|assumption)) (of_decide_eq_true (by first|(with_reducible assumption)|assumption)) HC0.out;have HR1140:=Aside0.mk (Kd.C_of_reads (h1:=fun _=>rfl) (hA25 _ (Kd.reads_of_C HR0.out)));have HC1140:=Aside0.mk hC25;clear hA25 hC25 hi025 hsz25;go_wp2_with (first|((with_reducible refine Qdr (f:=273) rfl ?_);refine Qe2 (some 24) rfl rfl Tryz.func273 (by kernel_rfl) rfl #[.slice A0 (l0.take (x5_1:Int).toNat).length c0] rfl (by (try simp only [List.map_toArray,List.map_cons,List.map_nil]);first|done|(rw [show (l0.take (x5_1:Int).toNat).length=x5_1.toNat from (by rw [List.length_take];have h_:(x5_1:Int)≤(l0.length:Int):=of_decide_eq_true (by first|(with_reducible assumption)|assumption);omega)] <;>rfl)|rfl|(simp only [List.length_drop,List.length_take];rfl)) ?_;(with_reducible refine (Qed.calls _ _ (l0.take (x5_1:Int).toNat) t1141 _ ?side1 ?side2 A20.out).mono ?_);(case side1=>repeat (first|exact (Kd.C_below HR1140.out HB.out)|(with_reducible refine Kd.C_alloc ?_ _)|(with_reducible refine Kd.C_drewN ?_ _)|(with_reducible refine Kd.C_drew ?_)));(case side2=>exact HC1140.out);rintro e w26 ⟨v1142,rfl,ho0,hb⟩;refine ⟨_,rfl,?_⟩;have HO1143:=Aside0.mk (Kd.R_lower ho0 (Qj (by repeat (first|(with_reducible first|exact HB.out|apply Qk|apply Qi|apply Qo)|exact HB.out))));replace HB:=Aside0.mk (Qb (by repeat (first|(with_reducible first|exact HB.out|apply Qk|apply Qi|apply Qo)|exact HB.out)) hb);(try clear hb);(try clear hb2);(try clear hk);(try clear hi);(try clear ho0))|((with_reducible refine Qcj (b:= .append) (xs:= #[.tmp 24, .tmp 26]) rfl ?_);at_builtin;refine Kd.R_append (Kd.int .i64) (w0:=w) w.heap.size rfl (.tmp 24) (.tmp 26) 24 3 (.int .i64 0) 8 rfl Tryz.underlying24 Qeo rfl (by decide) (by omega) v1142 t1141 a1 [.int .i64 a1] (fun _=>True) (fun _=>False) rfl rfl ?aP (fun _ hk=>hk.elim) ?aF ?aO ?aB ?aS ?aL ?_;(case aP=>exact rfl);(case aB=>exact (by repeat (first|(with_reducible first|exact HB.out|apply Qk|apply Qi|apply Qo)|exact HB.out)));(case aF=>exact (fun _ _=>trivial));(case aO=>exact (by (with_reducible repeat (first|apply Kd.R_alloc|apply Kd.R_drewN|apply Kd.R_drew));exact HO1143.out));(case aS=>exact (Qj (by repeat (first|(with_reducible first|exact HB.out|apply Qk|apply Qi|apply Qo)|exact HB.out))));(case aL=>have:=LMc21.out;omega);intro v1145 w27 ho hb hg hat;rw [←Ny1144.out] at ho;replace HB:=Aside0.mk (hb);have HO1146:=Aside0.mk (ho);clear HO1143;clear ho hb hg hat;obtain ⟨i028,hi028,_,hsz28,_⟩:=info_parts Qeo;obtain ⟨A28,hcut28,hA28,hC28⟩:=Qjd (P:=Tryz.prog) (Value.int .i64) 0 24 3 .i64 Tryz.underlying24 hi028 hsz28 A0 c0 l0 x5_1 (of_decide_eq_true (by first|(with_reducible assumption)|assumption)) (of_decide_eq_true (by first|(with_reducible assumption)|assumption)) HC0.out;have HR1147:=Aside0.mk (Kd.C_of_reads (h1:=fun _=>rfl) (hA28 _ (Kd.reads_of_C HR0.out)));have HC1147:=Aside0.mk hC28;clear hA28 hC28 hi028 hsz28)|((with_reducible refine Qcj (b:= .append) (xs:= #[.tmp 28, .tmp 31]) rfl ?_);at_builtin;refine Kd.R_append_rows (Kd.int .i64) (w0:=w) w.heap.size rfl (.tmp 28) (.tmp 31) 24 3 (.int .i64 0) 8 rfl Tryz.underlying24 Qeo rfl (by decide) (by omega) v1145 y1144 (l0.drop (x5_1:Int).toNat) _ _ _ (fun _=>True) (fun _=>False) rfl rfl ?aO ?aR (fun _ _ h=>h) (fun _ h=>h.elim) ?aF ?aB ?aS ?aL ?_;(case aR=>first|(rw [←show (l0.drop (x5_1:Int).toNat).length=(l0.length - x5_1.toNat) from List.length_drop];repeat (first|exact (Kd.C_below HR1147.out HB.out)|(with_reducible refine Kd.C_alloc ?_ _)|(with_reducible refine Kd.C_drewN ?_ _)|(with_reducible refine Kd.C_drew ?_)))|(repeat (first|exact (Kd.C_below HR1147.out HB.out)|(with_reducible refine Kd.C_alloc ?_ _)|(with_reducible refine Kd.C_drewN ?_ _)|(with_reducible refine Kd.C_drew ?_))));(case aB=>exact (by repeat (first|(with_reducible first|exact HB.out|apply Qk|apply Qi|apply Qo)|exact HB.out)));(case aF=>exact (fun _ _=>trivial));(case aO=>exact (by (with_reducible repeat (first|apply Kd.R_alloc|apply Kd.R_drewN|apply Kd.R_drew));exact HO1146.out));(case aS=>exact (Qj (by repeat (first|(with_reducible first|exact HB.out|apply Qk|apply Qi|apply Qo)|exact HB.out))));(case aL=>have:=LMc24.out;have hlx_:=(show (l0.drop (x5_1:Int).toNat).length=(l0.length - x5_1.toNat) from List.length_drop);omega);intro v1149 w29 ho hb hg hat;rw [←Ny1148.out] at ho;replace HB:=Aside0.mk (hb);have HO1150:=Aside0.mk (ho);clear HO1146;clear ho hb hg hat))
        go_ret
        exact ⟨_,by first|rfl|(simp [Qd,Qe] <;>rfl)|(simp [*,Qd,Qe] <;>rfl),uR HO1150,uB HB⟩
       ·
        rw [if_neg c24] at H;exact absurd H (by simp)
      ·
       rw [if_neg c21] at H;exact absurd H (by simp)
     ·
      rw [if_neg c19] at H;exact absurd H (by simp)
    ·
     rw [if_neg c18] at H;exact absurd H (by simp)
mutual
def Qr.l0 : Nat → List Bool → List Int → List Int → Int → Int → List Int → Option (List Int × Bool)
 |0,_,_,_,_,_,_=>none
 |k+1,x4,x5,x18,x19,x20,x1152000=>if x20<x19 then (if 0≤x20 then (if x20<(x18.length:Int) then (Qr.l1 k x4 x5 (rd x18 x20) 0 x18 x19 x20 x1152000) else (none)) else (none)) else (some (x5,true))
def Qr.l1 : Nat → List Bool → List Int → Int → Int → List Int → Int → Int → List Int → Option (List Int × Bool)
 |0,_,_,_,_,_,_,_,_=>none
 |k+1,x4,x5,x7,x8,x18,x19,x20,x1152000=>if 0≤x7 then (if x7<(x4.length:Int) then (if rdOf false x4 x7=true then (if x8>0 then ((Qcr.f k x5 x8).bind fun t1161=>(Qr.l0 k x4 t1161 x18 x19 (wrap64 (x20+1)) x1152000)) else (Qr.l0 k x4 x5 x18 x19 (wrap64 (x20+1)) x1152000)) else ((Qbf.f k x1152000 x7 false).bind fun t1165=>(Qr.l1 k (x4.set (x7:Int).toNat true) x5 t1165 (wrap64 (x8+1)) x18 x19 x20 x1152000))) else (none)) else (none)
end
def Qr.f (k : Nat) (l0_0 : List Int) : Option (List Int × Bool) := (Qc3.f k l0_0).bind fun t1152 => (if t1152 = true then (if 0 ≤ (shl .i64 1 (l0_0.length : Int)) then (if (shl .i64 1 (l0_0.length : Int) : Int).toNat ≤ 281474976710656 then ((Qb2.f k l0_0).bind fun t1156 => (Qr.l0 k (List.replicate (shl .i64 1 (l0_0.length : Int) : Int).toNat false) ([] : List Int) t1156 (t1156.length : Int) 0 l0_0)) else (none)) else (none)) else (some (([] : List Int), false)))
theorem Qr.mono_l : ∀ k, (∀ y0 y1 y2 y3 y4 y5, LeO (Qr.l0 k y0 y1 y2 y3 y4 y5) (Qr.l0 (k + 1) y0 y1 y2 y3 y4 y5)) ∧ (∀ y0 y1 y2 y3 y4 y5 y6 y7, LeO (Qr.l1 k y0 y1 y2 y3 y4 y5 y6 y7) (Qr.l1 (k + 1) y0 y1 y2 y3 y4 y5 y6 y7))
 |0=>⟨fun _ _ _ _ _ _ r h=>by simp [Qr.l0] at h,fun _ _ _ _ _ _ _ _ r h=>by simp [Qr.l1] at h⟩
 |k+1=>by
  obtain ⟨ih0,ih1⟩:=Qr.mono_l k;refine ⟨?_,?_⟩
  all_goals
   intros
   first|unfold Qr.l0|unfold Qr.l1
   repeat' (with_reducible first|apply ih0|apply ih1|apply Qb2.mono|apply Qc3.mono|apply Qbf.mono|apply Qcr.mono|exact LeO.refl _|exact LeO.none _|refine LeO.ite ?_ ?_|refine LeO.bind ?_ (fun _=> ?_))
theorem Qr.mono : ∀ a0 k, LeO (Qr.f k a0) (Qr.f (k + 1) a0) := by
 intro a0 k;obtain ⟨ih0,ih1⟩:=Qr.mono_l k;unfold Qr.f
 repeat' (with_reducible first|apply ih0|apply ih1|apply Qb2.mono|apply Qc3.mono|apply Qbf.mono|apply Qcr.mono|exact LeO.refl _|exact LeO.none _|refine LeO.ite ?_ ?_|refine LeO.bind ?_ (fun _=> ?_))
set_option maxHeartbeats 8000000 in
set_option maxRecDepth 100000 in
theorem Qr.calls (k : Nat) (A0_0 : Option Addr) (c0_0 : Nat) (l0_0 : List Int) (r1 : List Int) (r2 : Bool) (w : World) (hr0_0 : Kd.C (Kd.int .i64) w A0_0 l0_0.length l0_0) (hc0_0 : l0_0.length ≤ c0_0) (h : Qr.f k l0_0 = some (r1, r2)) :
 Calls Tryz.prog 96 #[.agg #[.slice A0_0 l0_0.length c0_0]] w fun e w'=> ∃ v0_:Value,e= .returned (.tuple #[v0_, .bool r2])∧Kd.R (Kd.int .i64) 3 w' w.heap.size (fun _=>True) v0_ r1∧Below w.heap.size w w':=by
 have hu26:=Tryz.underlying26;have HR0_0:=Aside0.mk hr0_0;have HC0_0:=Aside0.mk hc0_0;clear hr0_0 hc0_0;have HB:=Aside0.mk (Below.refl w.heap.size w);have H:((Qc3.f k l0_0).bind fun t1152=>(if t1152=true then (if 0≤(shl .i64 1 (l0_0.length:Int)) then (if (shl .i64 1 (l0_0.length:Int):Int).toNat≤281474976710656 then ((Qb2.f k l0_0).bind fun t1156=>(Qr.l0 k (List.replicate (shl .i64 1 (l0_0.length:Int):Int).toNat false) ([] :List Int) t1156 (t1156.length:Int) 0 l0_0)) else (none)) else (none)) else (some (([] :List Int),false))))=some (r1,r2):=h;clear h;obtain ⟨t1152,A2,H⟩:=bs H;(try dsimp only at H)
 by_cases c3:t1152=true
 ·
  subst c3;rw [if_pos rfl] at H;obtain ⟨ji4,hji4⟩: ∃ j_:Int,(shl .i64 1 (l0_0.length:Int))=j_:=⟨_,rfl⟩
  replace H:(if 0≤(ji4) then (if (ji4:Int).toNat≤281474976710656 then ((Qb2.f k l0_0).bind fun t1156=>(Qr.l0 k (List.replicate (ji4:Int).toNat false) ([] :List Int) t1156 (t1156.length:Int) 0 l0_0)) else (none)) else (none))=some (r1,r2):=by first|(rw [hji4] at H;exact H)|(simp only [hji4] at H ⊢;exact H)
  (try rw [hji4] at A2)
  have hji4_:(IntKind.i64.wrap (1*2 ^ min (l0_0.length:Int).toNat 64))=ji4:=hji4;have hji4z:(l0_0.length:Int)≤64→(IntKind.i64.wrap (1*2 ^ (l0_0.length:Int).toNat))=ji4:=Qef hji4;have hji4p:(IntKind.i64.wrap (1*2 ^ min l0_0.length 64))=ji4:=hji4_;have hji4q:(l0_0.length:Int)≤64→(IntKind.i64.wrap (1*2 ^ l0_0.length))=ji4:=hji4z;have hji4r:(IntKind.i64.wrap (2 ^ min l0_0.length 64))=ji4:=by have h_:=hji4p;rw [Int.one_mul] at h_;exact h_
  have hji4s:(l0_0.length:Int)≤64→(IntKind.i64.wrap (2 ^ l0_0.length))=ji4:=fun hle_=>by have h_:=hji4q hle_;rw [Int.one_mul] at h_;exact h_
  have hji4u:(IntKind.i64.wrap (2 ^ min (l0_0.length:Int).toNat 64))=ji4:=by have h_:=hji4_;rw [Int.one_mul] at h_;exact h_
  have hji4v:(l0_0.length:Int)≤64→(IntKind.i64.wrap (2 ^ (l0_0.length:Int).toNat))=ji4:=fun hle_=>by have h_:=hji4z hle_;rw [Int.one_mul] at h_;exact h_
  have hji4y:(wrap64 (1*2 ^ min (l0_0.length:Int).toNat 64))=ji4:=(Qcq _).symm.trans hji4_;have hji4x:(l0_0.length:Int)≤64→(wrap64 (1*2 ^ (l0_0.length:Int).toNat))=ji4:=fun h_=>(Qcq _).symm.trans (hji4z h_)
  by_cases c5:0≤(ji4)
  ·
   rw [if_pos c5] at H;have c5b0:=eq_true c5;have c5b1:=decide_eq_true c5;clear c5
   by_cases c6:(ji4:Int).toNat≤281474976710656
   ·
    rw [if_pos c6] at H;have c6b0:=eq_true c6;have c6b1:=decide_eq_true c6;clear c6;obtain ⟨y1153,hy1153⟩: ∃ y_:List Bool,y_=(List.replicate (ji4:Int).toNat false):=⟨_,rfl⟩
    replace H:((Qb2.f k l0_0).bind fun t1156=>(Qr.l0 k y1153 ([] :List Int) t1156 (t1156.length:Int) 0 l0_0))=some (r1,r2):=by first|(rw [hy1153];with_reducible exact H)|(have H2_:=(Option.bind_some _ _).symm.trans H;rw [hy1153];with_reducible exact H2_)|(have H2_:=(Option.bind_some _ _).symm.trans H;with_reducible exact H2_)|with_reducible exact H|(rw [hy1153];exact H)|exact H
    have Ny1153:=Aside0.mk hy1153;clear hy1153;obtain ⟨t1156,A7,H⟩:=bs H;(try dsimp only at H)
    have H':=Aside0.mk H;clear H;go_enter Tryz.func96,Tryz.ntmps96;go_wp2_with (first|(refine bE (N:=1) (cs:= #[.slice A0_0 l0_0.length c0_0]) (t:=26) ?_;intro gb1151 hg w8 hbox hb;have BK1151:=Aside0.mk (hbox);have GW1151:=Aside0.mk ((gV hg (uB HB)));have GE1151:=GW1151;replace HB:=Aside0.mk (Qb (uB HB) hb);clear hb hbox hg;have hcz9_0:=bC BK1151;have hfz9_0:=Qf BK1151.out 0)|(refine gA (some 10) Tryz.func165 #[.agg #[.slice A0_0 l0_0.length c0_0]] ?_;(with_reducible refine (Qc3.calls k _ _ l0_0 true _ (uD HR0_0 HB) HC0_0.out A2.out).mono ?_);rintro e w10 ⟨rfl,hb⟩;refine ⟨_,rfl,?_⟩;replace BK1151:=Aside0.mk (Qc (uK BK1151) hb);replace HB:=Aside0.mk (Qb (uB HB) hb);(try clear hb);have hcz11_0:=bC BK1151;have hfz11_0:=Qf BK1151.out 0)|((with_reducible refine Qb9 (N:=16) rfl ?_);refine Kd.R_make Kd.bool _ 4 rfl (N:=16) rfl 121 _ _ rfl ji4 rfl rfl Tryz.underlying121 (.bool false) 1 info4 rfl (by decide) (by omega) false (ok:=fun _=>True) (okp:=fun _=>True) rfl (fun _ hk=>hk) trivial (of_decide_eq_true (by first|(with_reducible assumption)|assumption)) (Nat.le_trans (Nat.mul_le_mul_right _ (of_decide_eq_true (by first|(with_reducible assumption)|assumption):ji4.toNat≤281474976710656)) (by omega)) (Below.refl _ _) (Nat.le_refl _) ?_;intro v1154 w12 ho13 hb hg_ hnew_;clear hg_ hnew_;(first|rw [←Ny1153.out] at ho13|(simp only [Int.reduceToNat] at ho13;rw [←Ny1153.out] at ho13));have HO1155:=Aside0.mk (Kd.R_lower ho13 (Qj (uB HB)));replace BK1151:=Aside0.mk (Qc (uK BK1151) hb);replace HB:=Aside0.mk (Qb (uB HB) hb);clear hb ho13;have hcz14_0:=bC BK1151;have hfz14_0:=Qf BK1151.out 0)|(refine gA (some 18) Tryz.func171 #[.agg #[.slice A0_0 l0_0.length c0_0]] ?_;(with_reducible refine (Qb2.calls k _ _ l0_0 t1156 _ (uD HR0_0 HB) HC0_0.out A7.out).mono ?_);rintro e w15 ⟨v1157,rfl,ho0,hb⟩;refine ⟨_,rfl,?_⟩;replace HO1155:=Aside0.mk (Kd.R_below (uR HO1155) hb);have HO1158:=Aside0.mk (Kd.R_lower ho0 (Qj (uB HB)));replace BK1151:=Aside0.mk (Qc (uK BK1151) hb);replace HB:=Aside0.mk (Qb (uB HB) hb);(try clear hb ho0);obtain ⟨Ao16,co16,eo16⟩:=Kd.R_slice HO1158.out;subst eo16))
    go_loopg [5,20] k (fun kq v5 v20 w'=> ∃ (x4_1:List Bool) (x5_1:List Int) (x20_1:Int),v20= .int .i64 x20_1∧Aside0 (Qr.l0 kq x4_1 x5_1 t1156 (t1156.length:Int) x20_1 l0_0=some (r1,r2))∧Aside0 (kq≤k)∧Aside0 (Kd.R Kd.bool 4 w' w.heap.size (fun _=>True) v1154 x4_1)∧Aside0 (Kd.R (Kd.int .i64) 3 w' w.heap.size (fun k_=>some k_≠((.slice Ao16 t1156.length co16):Value).ownBlock) v5 x5_1)∧Aside0 (Kd.R (Kd.int .i64) 3 w' w.heap.size (fun k_=>some k_≠(v5:Value).ownBlock) (.slice Ao16 t1156.length co16) t1156)∧Aside0 (w'.heap[gb1151]? =some (.cells #[(.slice A0_0 l0_0.length c0_0)] 26 (0,0)))∧Aside0 (Below w.heap.size w w'))
    case atStart=>exact ⟨(y1153),(([] :List Int)),(0),(by first|rfl|(simp;done)|(simp [*];done)),H',⟨Nat.le_refl _⟩,⟨uR HO1155⟩,⟨by first|exact Kd.R_nil _ _ _ _ _|exact Kd.N_nil _ _ _ _ _|exact Kd.V_nil _ _ _ _ _|exact Kd.Q_nil _ _ _ _ _|exact Kd.S_nil _ _ _ _ _⟩,⟨by (with_reducible repeat (first|apply Kd.R_alloc|apply Kd.R_drewN|apply Kd.R_drew));exact Kd.R_mono HO1158.out (fun _ hk=>(by simp [Value.ownBlock]))⟩,⟨uK BK1151⟩,⟨uB HB⟩⟩
    case round=>
     clear H'
     try clear c1
     try clear p2
     try clear c3
     try clear c5
     try clear c5b0
     try clear c5b1
     try clear c6
     try clear c6b0
     try clear c6b1
     try clear p6
     try clear c9
     try clear c16
     try clear hcz11_0
     try clear hcz14_0
     try clear hcz9_0
     try clear hfz11_0
     try clear hfz14_0
     try clear hfz9_0
     obtain ⟨x4_1,x5_1,x20_1,rfl,HA,HK1,HO_4,HO_5,HO_18,BK1151,HB⟩:=hrel;cases gk with
     |zero=>exact absurd HA.out (by simp [Qr.l0])
     |succ k1=>
      have H:=HA.out;clear HA;simp only [Qr.l0] at H
      by_cases c17:x20_1<(t1156.length:Int)
      ·
       rw [if_pos c17] at H;have c17b0:=decide_eq_true c17;clear c17
       by_cases c18:0≤x20_1
       ·
        rw [if_pos c18] at H;have c18b0:=decide_eq_true c18;clear c18
        by_cases c19:x20_1<(t1156.length:Int)
        ·
         rw [if_pos c19] at H;have c19b0:=decide_eq_true c19;clear c19;have H':=Aside0.mk H;clear H;have p1159:0≤(x20_1:Int):=of_decide_eq_true (by first|(with_reducible assumption)|assumption);have q1159:x20_1<(t1156.length:Int):=of_decide_eq_true (by first|(with_reducible assumption)|assumption);obtain ⟨ad1159,e1159,hx1159_0⟩:=Kd.at_int (Kd.R_reads' HO_18.out).2.2 x20_1 p1159 q1159;cases e1159;replace p1159:=eq_true p1159;replace q1159:=eq_true q1159;go_wp2
         go_loopg [7,8] k1 (fun kq v7 v8 w'=> ∃ (x4_2:List Bool) (x7_2:Int) (x8_2:Int),v7= .int .i64 x7_2∧v8= .int .i64 x8_2∧Aside0 (Qr.l1 kq x4_2 x5_1 x7_2 x8_2 t1156 (t1156.length:Int) x20_1 l0_0=some (r1,r2))∧Aside0 (kq≤k1)∧Aside0 (Kd.R Kd.bool 4 w' w.heap.size (fun _=>True) v1154 x4_2)∧Aside0 (Kd.R (Kd.int .i64) 3 w' w.heap.size (fun k_=>some k_≠((.slice (some ad1159) t1156.length co16):Value).ownBlock) u5 x5_1)∧Aside0 (Kd.R (Kd.int .i64) 3 w' w.heap.size (fun k_=>some k_≠(u5:Value).ownBlock) (.slice (some ad1159) t1156.length co16) t1156)∧Aside0 (w'.heap[gb1151]? =some (.cells #[(.slice A0_0 l0_0.length c0_0)] 26 (0,0)))∧Aside0 (Below w.heap.size w w'))
         case atStart=>exact ⟨(x4_1),(rd t1156 x20_1),(0),(by first|rfl|(simp;done)|(simp [*];done)),(by first|rfl|(simp;done)|(simp [*];done)),H',⟨Nat.le_refl _⟩,⟨uR HO_4⟩,⟨uR HO_5⟩,⟨uR HO_18⟩,⟨uK BK1151⟩,⟨uB HB⟩⟩
         case round=>
          clear H'
          try clear c1
          try clear p1
          try clear q1
          try clear hx1
          try clear p2
          try clear c3
          try clear c5
          try clear c5b0
          try clear c5b1
          try clear c6
          try clear c6b0
          try clear c6b1
          try clear p6
          try clear c9
          try clear p11
          try clear q11
          try clear hx11
          try clear c16
          try clear c17
          try clear c17b0
          try clear c18
          try clear c18b0
          try clear c19
          try clear c19b0
          try clear hcz11_0
          try clear hcz14_0
          try clear hcz9_0
          try clear hfz11_0
          try clear hfz14_0
          try clear hfz9_0
          try clear hx1159_0
          try clear p1159
          try clear p2
          try clear p6
          try clear q1159
          obtain ⟨x4_2,x7_2,x8_2,rfl,rfl,HA,HK2,HO_4,HO_5,HO_18,BK1151,HB⟩:=hrel;cases gk with
          |zero=>exact absurd HA.out (by simp [Qr.l1])
          |succ k2=>
           have H:=HA.out;clear HA;simp only [Qr.l1] at H
           by_cases c20:0≤x7_2
           ·
            rw [if_pos c20] at H;have c20b0:=decide_eq_true c20;clear c20
            by_cases c21:x7_2<(x4_2.length:Int)
            ·
             rw [if_pos c21] at H;have c21b0:=decide_eq_true c21;clear c21;obtain ⟨bq22,hbq22⟩: ∃ b_:Bool,b_=(rdOf false x4_2 x7_2):=⟨_,rfl⟩
             replace H:(if bq22=true then (if x8_2>0 then ((Qcr.f k2 x5_1 x8_2).bind fun t1161=>(Qr.l0 k2 x4_2 t1161 t1156 (t1156.length:Int) (wrap64 (x20_1+1)) l0_0)) else (Qr.l0 k2 x4_2 x5_1 t1156 (t1156.length:Int) (wrap64 (x20_1+1)) l0_0)) else ((Qbf.f k2 l0_0 x7_2 false).bind fun t1165=>(Qr.l1 k2 (x4_2.set (x7_2:Int).toNat true) x5_1 t1165 (wrap64 (x8_2+1)) t1156 (t1156.length:Int) x20_1 l0_0)))=some (r1,r2):=by rw [←hbq22] at H;exact H
             have Nbq22:=Aside0.mk hbq22;clear hbq22
             by_cases c23:bq22=true
             ·
              subst c23;rw [if_pos rfl] at H
              by_cases c24:x8_2>0
              ·
               rw [if_pos c24] at H;have c24b0:=decide_eq_true c24;clear c24;obtain ⟨t1161,A25,H⟩:=bs H;(try dsimp only at H)
               have H':=Aside0.mk H;clear H;obtain ⟨Ao26,co26,eo26⟩:=Kd.R_slice HO_4.out;subst eo26;have p1160:0≤(x7_2:Int):=of_decide_eq_true (by first|(with_reducible assumption)|assumption);have q1160:x7_2<(x4_2.length:Int):=of_decide_eq_true (by first|(with_reducible assumption)|assumption);obtain ⟨ad1160,e1160,hx1160_0⟩:=Kd.at_bool (Kd.R_reads' HO_4.out).2.2 x7_2 p1160 q1160
               (try rw [←Nbq22.out] at hx1160_0)
               cases e1160;replace p1160:=eq_true p1160;replace q1160:=eq_true q1160;obtain ⟨Ao27,co27,eo27⟩:=Kd.R_slice HO_5.out;subst eo27;go_wp2_with (first|(refine gA (some 41) Tryz.func201 #[.slice Ao27 x5_1.length co27, .int .i64 x8_2] ?_;(with_reducible refine (Qcr.calls k2 _ _ x5_1 x8_2 t1161 _ (uE HO_5) ?side2 A25.out).mono ?_);(case side2=>exact (Kd.R_reads' HO_5.out).2.1);rintro e w28 ⟨v1162,rfl,ho0,hb⟩;refine ⟨_,rfl,?_⟩;replace HO_4:=Aside0.mk (Kd.R_below (uR HO_4) hb);have HO1163:=Aside0.mk (Kd.R_lower (Kd.R_new' (Kd.R_new' ho0 (Kd.R_lt (uR HO_5))) (Kd.R_lt (uR HO_18))) (Qj (uB HB)));replace HO_5:=Aside0.mk (Kd.R_elder' (uR HO_5) (Kd.R_base ho0) hb);replace HO_18:=Aside0.mk (Kd.R_elder' (uR HO_18) (Kd.R_base ho0) hb);replace BK1151:=Aside0.mk (Qc (uK BK1151) hb);replace HB:=Aside0.mk (Qb (uB HB) hb);(try clear hb ho0)));go_roundg k2
               case measure=>have:=HK1.out;have:=HK2.out;omega
               case rel=>exact ⟨(x4_2),(t1161),(wrap64 (x20_1+1)),(by first|rfl|(simp;done)|(simp [*];done)),H',⟨by have:=HK1.out;have:=HK2.out;omega⟩,⟨uR HO_4⟩,⟨by (with_reducible repeat (first|apply Kd.R_alloc|apply Kd.R_drewN|apply Kd.R_drew));exact Kd.R_mono HO1163.out (fun _ hk=>hk.2)⟩,⟨by (with_reducible repeat (first|apply Kd.R_alloc|apply Kd.R_drewN|apply Kd.R_drew));exact Kd.R_mono HO_18.out (fun _ hk=>hk.2)⟩,⟨uK BK1151⟩,⟨uB HB⟩⟩
              ·
               rw [if_neg c24] at H;have c24b0:=decide_eq_false c24;clear c24;have H':=Aside0.mk H;clear H;obtain ⟨Ao29,co29,eo29⟩:=Kd.R_slice HO_4.out;subst eo29;have p1160:0≤(x7_2:Int):=of_decide_eq_true (by first|(with_reducible assumption)|assumption);have q1160:x7_2<(x4_2.length:Int):=of_decide_eq_true (by first|(with_reducible assumption)|assumption);obtain ⟨ad1160,e1160,hx1160_0⟩:=Kd.at_bool (Kd.R_reads' HO_4.out).2.2 x7_2 p1160 q1160
               (try rw [←Nbq22.out] at hx1160_0)
               cases e1160;replace p1160:=eq_true p1160;replace q1160:=eq_true q1160;go_wp2;go_roundg k2
               case measure=>have:=HK1.out;have:=HK2.out;omega
               case rel=>exact ⟨(x4_2),(x5_1),(wrap64 (x20_1+1)),(by first|rfl|(simp;done)|(simp [*];done)),H',⟨by have:=HK1.out;have:=HK2.out;omega⟩,⟨uR HO_4⟩,⟨uR HO_5⟩,⟨uR HO_18⟩,⟨uK BK1151⟩,⟨uB HB⟩⟩
             ·
              replace c23:=Bool.eq_false_iff.mpr c23;subst c23;rw [if_neg (show ¬ (false=true) by decide)] at H;obtain ⟨y1164,hy1164⟩: ∃ y_:List Bool,y_=(x4_2.set (x7_2:Int).toNat true):=⟨_,rfl⟩
              replace H:((Qbf.f k2 l0_0 x7_2 false).bind fun t1165=>(Qr.l1 k2 y1164 x5_1 t1165 (wrap64 (x8_2+1)) t1156 (t1156.length:Int) x20_1 l0_0))=some (r1,r2):=by first|(rw [hy1164];with_reducible exact H)|(have H2_:=(Option.bind_some _ _).symm.trans H;rw [hy1164];with_reducible exact H2_)|(have H2_:=(Option.bind_some _ _).symm.trans H;with_reducible exact H2_)|with_reducible exact H|(rw [hy1164];exact H)|exact H
              have Ny1164:=Aside0.mk hy1164;clear hy1164;obtain ⟨t1165,A31,H⟩:=bs H;(try dsimp only at H)
              have H':=Aside0.mk H;clear H;obtain ⟨Ao32,co32,eo32⟩:=Kd.R_slice HO_4.out;subst eo32;have p1160:0≤(x7_2:Int):=of_decide_eq_true (by first|(with_reducible assumption)|assumption);have q1160:x7_2<(x4_2.length:Int):=of_decide_eq_true (by first|(with_reducible assumption)|assumption);obtain ⟨ad1160,e1160,hx1160_0⟩:=Kd.at_bool (Kd.R_reads' HO_4.out).2.2 x7_2 p1160 q1160
              (try rw [←Nbq22.out] at hx1160_0)
              cases e1160;replace p1160:=eq_true p1160;replace q1160:=eq_true q1160;have p30:0≤(x7_2:Int):=of_decide_eq_true (by first|(with_reducible assumption)|assumption);have q30:(x7_2:Int)<((x4_2.length:Int):Int):=of_decide_eq_true (by first|(with_reducible assumption)|assumption);obtain ⟨go30,co30,eo30,gb30,gl30,cl30,HG30⟩:=Kd.R_form HO_4.out (by omega)
              (first|cases eo30|(injection eo30 with ea_ en_ ec_;(first|subst ea_|(injection ea_ with ea_;subst ea_));subst ec_;clear en_))
              have GB30:=Aside0.mk gb30;have GG30:=Aside0.mk HG30;clear gb30 gl30 HG30
              (first|simp only [Qer] at hx1160_0|skip)
              obtain ⟨hx30_0,hf30_0⟩:=Kd.R_celln false HO_4.out (x7_2:Int) p30 q30;replace p30:=eq_true p30;replace q30:=eq_true q30;have HP33:=Kd.R_putg HO_4.out (x7_2:Int) true;go_wp2_with (first|((with_reducible refine Qpr (t:=4) (p:=34) rfl ?_);refine Qov (t:=4) (p:=34) (v:= ?vo_w34) (w1:=(wr.setCell ⟨go30,(x7_2:Int).toNat,none⟩ (.bool true))) ?hg ?ho ?hn ?hr ?_;(case ho=>rfl);(case hg=>rfl);(case hn=>rfl);(case hr=>first|(go_simp;done)|(go_simp;rfl));intro w34 hw;have hg:wr.grownBy w34 (some go30):=(by rw [hw];exact HP33.2);have hp_:Kd.R Kd.bool 4 w34 w.heap.size (fun _=>True) (.slice (some ⟨go30,0,none⟩) x4_2.length co32) y1164:=(by rw [hw,Ny1164.out];exact HP33.1);clear HP33;replace HO_5:=Aside0.mk (Kd.R_over' (v:=(.slice (some ⟨go30,0,none⟩) x4_2.length co32)) (uR HO_5) (Kd.R_typed HO_4.out) (by decide) hg);replace HO_18:=Aside0.mk (Kd.R_over' (v:=(.slice (some ⟨go30,0,none⟩) x4_2.length co32)) (uR HO_18) (Kd.R_typed HO_4.out) (by decide) hg);replace BK1151:=Aside0.mk (Qdi (uK BK1151) hg (Kd.R_ne HO_4.out BK1151.out (by decide)));replace HO_4:=Aside0.mk (hp_);replace HB:=Aside0.mk ((by rw [hw];exact Qx (HB.out) GB30.out:Below w.heap.size w w34));clear hg hw hp_;have hcz35_0:=bC BK1151;have hfz35_0:=Qf BK1151.out 0)|(refine gA (some 31) Tryz.func238 #[.agg #[.slice A0_0 l0_0.length c0_0], .int .i64 x7_2, .bool false] ?_;(with_reducible refine (Qbf.calls k2 _ _ l0_0 x7_2 false t1165 _ (uD HR0_0 HB) HC0_0.out A31.out).mono ?_);rintro e w36 ⟨rfl,hb⟩;refine ⟨_,rfl,?_⟩;replace HO_4:=Aside0.mk (Kd.R_below (uR HO_4) hb);replace HO_5:=Aside0.mk (Kd.R_below (uR HO_5) hb);replace HO_18:=Aside0.mk (Kd.R_below (uR HO_18) hb);replace BK1151:=Aside0.mk (Qc (uK BK1151) hb);replace HB:=Aside0.mk (Qb (uB HB) hb);(try clear hb)));go_roundg k2
              case measure=>have:=HK1.out;have:=HK2.out;omega
              case rel=>exact ⟨(y1164),(t1165),(wrap64 (x8_2+1)),(by first|rfl|(simp;done)|(simp [*];done)),(by first|rfl|(simp;done)|(simp [*];done)),H',⟨by have:=HK1.out;have:=HK2.out;omega⟩,⟨uR HO_4⟩,⟨uR HO_5⟩,⟨uR HO_18⟩,⟨uK BK1151⟩,⟨uB HB⟩⟩
            ·
             rw [if_neg c21] at H;exact absurd H (by simp)
           ·
            rw [if_neg c20] at H;exact absurd H (by simp)
        ·
         rw [if_neg c19] at H;exact absurd H (by simp)
       ·
        rw [if_neg c18] at H;exact absurd H (by simp)
      ·
       rw [if_neg c17] at H;have c17b0:=decide_eq_false c17;clear c17;simp only [Option.some.injEq,Prod.mk.injEq] at H;obtain ⟨rfl,rfl⟩:=H;go_wp2
       go_ret2
       exact ⟨_,by first|rfl|(simp [Qd,Qe] <;>rfl)|(simp only [←hji4];first|rfl|(simp [Qd,Qe] <;>rfl))|(simp [*,Qd,Qe] <;>rfl),by (with_reducible repeat (first|apply Kd.R_alloc|apply Kd.R_drewN|apply Kd.R_drew));exact Kd.R_mono HO_5.out (fun _ hk=>trivial),uB HB⟩
   ·
    rw [if_neg c6] at H;exact absurd H (by simp)
  ·
   rw [if_neg c5] at H;exact absurd H (by simp)
 ·
  replace c3:=Bool.eq_false_iff.mpr c3;subst c3;rw [if_neg (show ¬ (false=true) by decide)] at H;simp only [Option.some.injEq,Prod.mk.injEq] at H;obtain ⟨rfl,rfl⟩:=H;go_enter Tryz.func96,Tryz.ntmps96;go_wp2_with (first|(refine bE (N:=1) (cs:= #[.slice A0_0 l0_0.length c0_0]) (t:=26) ?_;intro gb1151 hg w37 hbox hb;have BK1151:=Aside0.mk (hbox);have GW1151:=Aside0.mk ((gV hg (uB HB)));have GE1151:=GW1151;replace HB:=Aside0.mk (Qb (uB HB) hb);clear hb hbox hg;have hcz38_0:=bC BK1151;have hfz38_0:=Qf BK1151.out 0)|(refine gA (some 10) Tryz.func165 #[.agg #[.slice A0_0 l0_0.length c0_0]] ?_;(with_reducible refine (Qc3.calls k _ _ l0_0 false _ (uD HR0_0 HB) HC0_0.out A2.out).mono ?_);rintro e w39 ⟨rfl,hb⟩;refine ⟨_,rfl,?_⟩;replace BK1151:=Aside0.mk (Qc (uK BK1151) hb);replace HB:=Aside0.mk (Qb (uB HB) hb);(try clear hb)))
  go_ret2
  exact ⟨_,by first|rfl|(simp [Qd,Qe] <;>rfl)|(simp [*,Qd,Qe] <;>rfl),by first|exact Kd.R_nil _ _ _ _ _|exact Kd.N_nil _ _ _ _ _|exact Kd.V_nil _ _ _ _ _|exact Kd.Q_nil _ _ _ _ _|exact Kd.S_nil _ _ _ _ _,uB HB⟩
end Go.Proofs.YtkgngggppcmpfaaGreat.L
end
