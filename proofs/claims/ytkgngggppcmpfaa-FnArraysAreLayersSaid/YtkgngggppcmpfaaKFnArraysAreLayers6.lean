/- Laws about the given program: the law FnArraysAreLayers answers true for every input that its row lets in; no condition is added to the given statement. Contracts of the Go functions that it reaches, and the plain proof over lists. -/
import Derived.Test.YtkgngggppcmpfaaWFnArraysAreLayers0
import Derived.Test.YtkgngggppcmpfaaKFnArraysAreLayers0
import Derived.Test.YtkgngggppcmpfaaKFnArraysAreLayers1
import Derived.Test.YtkgngggppcmpfaaKFnArraysAreLayers2
import Derived.Test.YtkgngggppcmpfaaKFnArraysAreLayers3
import Derived.Test.YtkgngggppcmpfaaKFnArraysAreLayers4
import Derived.Test.YtkgngggppcmpfaaKFnArraysAreLayers5
section
namespace Go.Proofs.Ytkgngggppcmpfaa.L
open Go.RowKit Go.Proofs.YtkgngggppcmpfaaW.PrintWords Go.Proofs.YtkgngggppcmpfaaW.PrintLast Go.Proofs.YtkgngggppcmpfaaW.PrintMore Go.Proofs.Ytkgngggppcmpfaa.X
attribute [local go_sem] Qbd Qbf Qbn Qbo Q3 Q4 Qbe Qbg
set_option linter.unusedVariables false
set_option linter.unusedSimpArgs false
mutual
def Qba.j0:Nat→Int→Int→Bool→List Int→Option (List Int × Bool)
 |0,_,_,_,_=>none
 |k+1,x1,x2,x19,x618000=>if x19=true then (some (([] :List Int),false)) else (Qba.l0 k x1 x2 ([] :List Int) (x618000.length:Int) 0)
def Qba.l0:Nat→Int→Int→List Int→Int→Int→Option (List Int × Bool)
 |0,_,_,_,_,_=>none
 |k+1,x1,x2,x8,x22,x23=>if x23<x22 then ((Qch.f x1 x23).bind fun t620=>(if t620=true then (if x8.length<17592186044416 then (Qba.l0 k x1 x2 (x8++ [0]) x22 (wrap64 (x23+1))) else (none)) else (if x8.length<17592186044416 then (Qba.l0 k x1 x2 (x8++ [x2]) x22 (wrap64 (x23+1))) else (none)))) else (some (x8,true))
end
def Qba.f (k:Nat) (l0_0:List Int) (a1:Int) (a2:Int):Option (List Int × Bool):=(Qec.f k l0_0 a1).bind fun t618=>(if t618=true then ((Qdj.f a2).bind fun t619=>(Qba.j0 k a1 a2 (!t619) l0_0)) else (Qba.j0 k a1 a2 true l0_0))
theorem Qba.mono_l: ∀ k,(∀ y0 y1 y2 y3,LeO (Qba.j0 k y0 y1 y2 y3) (Qba.j0 (k+1) y0 y1 y2 y3))∧(∀ y0 y1 y2 y3 y4,LeO (Qba.l0 k y0 y1 y2 y3 y4) (Qba.l0 (k+1) y0 y1 y2 y3 y4))
 |0=>⟨fun _ _ _ _ r h=>by simp [Qba.j0] at h,fun _ _ _ _ _ r h=>by simp [Qba.l0] at h⟩
 |k+1=>by
  obtain ⟨ih0,ih1⟩:=Qba.mono_l k;refine ⟨?_,?_⟩
  all_goals
   intros
   first|unfold Qba.j0|unfold Qba.l0
   repeat' (with_reducible first|apply ih0|apply ih1|apply Qec.mono|exact LeO.refl _|exact LeO.none _|refine LeO.ite ?_ ?_|refine LeO.bind ?_ (fun _=> ?_))
theorem Qba.mono: ∀ a0 a1 a2 k,LeO (Qba.f k a0 a1 a2) (Qba.f (k+1) a0 a1 a2):=by
 intro a0 a1 a2 k;obtain ⟨ih0,ih1⟩:=Qba.mono_l k;unfold Qba.f
 repeat' (with_reducible first|apply ih0|apply ih1|apply Qec.mono|exact LeO.refl _|exact LeO.none _|refine LeO.ite ?_ ?_|refine LeO.bind ?_ (fun _=> ?_))
set_option maxHeartbeats 8000000 in
set_option maxRecDepth 100000 in
theorem Qba.calls (k:Nat) (A0_0:Option Addr) (c0_0:Nat) (l0_0:List Int) (a1:Int) (a2:Int) (r1:List Int) (r2:Bool) (w:World) (hr0_0:Kd.C (Kd.int .i64) w A0_0 l0_0.length l0_0) (hc0_0:l0_0.length≤c0_0) (h:Qba.f k l0_0 a1 a2=some (r1,r2)):
 Calls Try.prog 47 #[.agg #[.slice A0_0 l0_0.length c0_0], .int .i64 a1, .int .i64 a2] w fun e w'=> ∃ v0_:Value,e= .returned (.tuple #[v0_, .bool r2])∧Kd.R (Kd.int .i64) 3 w' w.heap.size (fun _=>True) v0_ r1∧Below w.heap.size w w':=by
 have hu26:=Try.underlying26;have HR0_0:=Zk hr0_0;have HC0_0:=Zk hc0_0;clear hr0_0 hc0_0;have HB:=Zk (Below.refl w.heap.size w);have H:((Qec.f k l0_0 a1).bind fun t618=>(if t618=true then ((Qdj.f a2).bind fun t619=>(Qba.j0 k a1 a2 (!t619) l0_0)) else (Qba.j0 k a1 a2 true l0_0)))=some (r1,r2):=h;clear h;have HC4:=Zk H;clear H;go_enter Try.func47,Try.ntmps47;go_upto_region 1 with (first|(refine bE (N:=3) (cs:= #[.slice A0_0 l0_0.length c0_0]) (t:=26) ?_;intro gb617 hg w5 hbox hb;have BK617:=Zk (hbox);have GW617:=Zk ((by rw [hg];exact (Qh (uB HB)):w.heap.size≤gb617));have GE617:=GW617;replace HB:=Zk (Qc (uB HB) hb);clear hb hbox hg))
 (try simp only [Act.put,List.setIfInBounds_toArray,List.set_cons_zero,List.set_cons_succ])
 go_cut [19] (fun v19 wc=> ∃ (kq:Nat) (x19_3:Bool),v19= .bool x19_3∧Z0 (Qba.j0 kq a1 a2 x19_3 l0_0=some (r1,r2))∧Z0 (kq≤k)∧Z0 (wc.heap[gb617]? =some (.cells #[(.slice A0_0 l0_0.length c0_0)] 26 (0,0)))∧Z0 (Below w.heap.size w wc))
 case first=>
  have H:=HC4.out;clear HC4;obtain ⟨t618,A6,H⟩:=bs H;(try dsimp only at H)
  by_cases c7:t618=true
  ·
   subst c7;rw [if_pos rfl] at H;obtain ⟨t619,A8,H⟩:=bs H;(try dsimp only at H)
   have H':=Zk H;clear H;have hcz9_0:=bC BK617;have hfz9_0:=Qg BK617.out 0;go_wp2_with (first|(refine gA (some 13) Try.func105 #[.agg #[.slice A0_0 l0_0.length c0_0], .int .i64 a1] ?_;(with_reducible refine (Qec.calls k _ _ l0_0 a1 true _ (uD HR0_0 HB) HC0_0.out A6.out).mono ?_);rintro e w10 ⟨rfl,hb⟩;refine ⟨_,rfl,?_⟩;replace BK617:=Zk (Qd (uK BK617) hb);replace HB:=Zk (Qc (vB HB) hb);(try clear hb))|(go_at_call 89;(with_reducible refine (Qdj.calls a2 t619 _ A8.out).mono ?_);rintro e w' ⟨rfl,⟨nd,rfl⟩⟩))
   go_meet
   case rel=>exact ⟨_,(!t619),(by first|rfl|(simp;done)|(simp [*];done)),H',⟨by first|omega|exact Nat.le_refl _⟩,⟨uK BK617⟩,⟨(vB HB)⟩⟩
  ·
   replace c7:=Bool.eq_false_iff.mpr c7;subst c7;rw [if_neg (show ¬ (false=true) by decide)] at H;have H':=Zk H;clear H;have hcz11_0:=bC BK617;have hfz11_0:=Qg BK617.out 0;go_wp2_with (first|(refine gA (some 13) Try.func105 #[.agg #[.slice A0_0 l0_0.length c0_0], .int .i64 a1] ?_;(with_reducible refine (Qec.calls k _ _ l0_0 a1 false _ (uD HR0_0 HB) HC0_0.out A6.out).mono ?_);rintro e w12 ⟨rfl,hb⟩;refine ⟨_,rfl,?_⟩;replace BK617:=Zk (Qd (uK BK617) hb);replace HB:=Zk (Qc (vB HB) hb);(try clear hb)))
   go_meet
   case rel=>exact ⟨_,(true),(by first|rfl|(simp;done)|(simp [*];done)),H',⟨by first|omega|exact Nat.le_refl _⟩,⟨uK BK617⟩,⟨(vB HB)⟩⟩
 case rest=>
  clear HC4
  skip
  obtain ⟨kq,x19_3,rfl,HA,HJ3,BK617,HB⟩:=hcut;cases kq with
  |zero=>exact absurd HA.out (by simp [Qba.j0])
  |succ kj3=>
   have H:=HA.out;clear HA;simp only [Qba.j0] at H
   by_cases c13:x19_3=true
   ·
    subst c13;rw [if_pos rfl] at H;simp only [Option.some.injEq,Prod.mk.injEq] at H;obtain ⟨rfl,rfl⟩:=H;go_wp2
    go_ret2
    exact ⟨_,by first|rfl|(simp [Qe,Qf] <;>rfl)|(simp [*,Qe,Qf] <;>rfl),by first|exact Kd.R_nil _ _ _ _ _|exact Kd.N_nil _ _ _ _ _|exact Kd.V_nil _ _ _ _ _|exact Kd.Q_nil _ _ _ _ _|exact Kd.S_nil _ _ _ _ _,(vB HB)⟩
   ·
    replace c13:=Bool.eq_false_iff.mpr c13;subst c13;rw [if_neg (show ¬ (false=true) by decide)] at H;have H':=Zk H;clear H;have hcz14_0:=bC BK617;have hfz14_0:=Qg BK617.out 0;go_wp2
    go_loopg [8,23] kj3 (fun kq v8 v23 w'=> ∃ (x8_2:List Int) (x23_2:Int),v23= .int .i64 x23_2∧Z0 (Qba.l0 kq a1 a2 x8_2 (l0_0.length:Int) x23_2=some (r1,r2))∧Z0 (kq≤kj3)∧Z0 (Kd.R (Kd.int .i64) 3 w' w.heap.size (fun _=>True) v8 x8_2)∧Z0 (w'.heap[gb617]? =some (.cells #[(.slice A0_0 l0_0.length c0_0)] 26 (0,0)))∧Z0 (Below w.heap.size w w'))
    case atStart=>exact ⟨(([] :List Int)),(0),(by first|rfl|(simp;done)|(simp [*];done)),H',⟨Nat.le_refl _⟩,⟨by first|exact Kd.R_nil _ _ _ _ _|exact Kd.N_nil _ _ _ _ _|exact Kd.V_nil _ _ _ _ _|exact Kd.Q_nil _ _ _ _ _|exact Kd.S_nil _ _ _ _ _⟩,⟨uK BK617⟩,⟨(vB HB)⟩⟩
    case round=>
     clear H'
     try clear hcz14_0 hfz14_0
     obtain ⟨x8_2,x23_2,rfl,HA,HK2,HO_8,BK617,HB⟩:=hrel;cases gk with
     |zero=>exact absurd HA.out (by simp [Qba.l0])
     |succ k2=>
      have H:=HA.out;clear HA;simp only [Qba.l0] at H
      by_cases c15:x23_2<(l0_0.length:Int)
      ·
       rw [if_pos c15] at H;have c15b0:=decide_eq_true c15;clear c15;obtain ⟨t620,A16,H⟩:=bs H;(try dsimp only at H)
       by_cases c17:t620=true
       ·
        subst c17;rw [if_pos rfl] at H
        by_cases c18:x8_2.length<17592186044416
        ·
         rw [if_pos c18] at H;have LMc18:=Zk c18;clear c18;obtain ⟨y621,hy621⟩: ∃ y_:List Int,y_=(x8_2++ [0]):=⟨_,rfl⟩
         replace H:(Qba.l0 k2 a1 a2 y621 (l0_0.length:Int) (wrap64 (x23_2+1)))=some (r1,r2):=by first|(rw [hy621];with_reducible exact H)|(have H2_:=(Option.bind_some _ _).symm.trans H;rw [hy621];with_reducible exact H2_)|(have H2_:=(Option.bind_some _ _).symm.trans H;with_reducible exact H2_)|with_reducible exact H|(rw [hy621];exact H)|exact H
         have Ny621:=Zk hy621;clear hy621;have H':=Zk H;clear H;go_wp2_with (first|(refine gA (some 29) Try.func59 #[.int .i64 a1, .int .i64 x23_2] ?_;(with_reducible refine (Qch.calls a1 x23_2 true _ A16.out).mono ?_);rintro e w' ⟨rfl,⟨nd,rfl⟩⟩;refine ⟨_,rfl,?_⟩)|((with_reducible refine Qcl (b:= .append) (xs:= #[.tmp 30, .tmp 32]) rfl ?_);at_builtin;refine Kd.R_append (Kd.int .i64) (w0:=w) w.heap.size rfl (.tmp 30) (.tmp 32) 24 3 (.int .i64 0) 8 rfl Try.underlying24 Qed rfl (by decide) (by omega) u8 x8_2 0 [.int .i64 0] (fun _=>True) (fun _=>False) rfl rfl ?aP (fun _ hk=>hk.elim) ?aF ?aO ?aB ?aS ?aL ?_;(case aP=>exact rfl);(case aB=>exact (vB HB));(case aF=>exact (fun _ _=>trivial));(case aO=>exact (uR HO_8));(case aS=>exact (Qh (vB HB)));(case aL=>have:=LMc18.out;omega);intro v622 w19 ho hb hg hat;rw [←Ny621.out] at ho;replace BK617:=Zk (Qb8 (uK BK617) hg (Kd.R_ne HO_8.out BK617.out (by decide)));replace HB:=Zk (hb);have HO623:=Zk (ho);clear HO_8;clear ho hb hg hat));go_roundg k2
         case measure=>have:=HJ3.out;have:=HK2.out;omega
         case rel=>exact ⟨(y621),(wrap64 (x23_2+1)),(by first|rfl|(simp;done)|(simp [*];done)),H',⟨by have:=HJ3.out;have:=HK2.out;omega⟩,⟨uR HO623⟩,⟨uK BK617⟩,⟨(vB HB)⟩⟩
        ·
         rw [if_neg c18] at H;exact absurd H (by simp)
       ·
        replace c17:=Bool.eq_false_iff.mpr c17;subst c17;rw [if_neg (show ¬ (false=true) by decide)] at H
        by_cases c20:x8_2.length<17592186044416
        ·
         rw [if_pos c20] at H;have LMc20:=Zk c20;clear c20;obtain ⟨y624,hy624⟩: ∃ y_:List Int,y_=(x8_2++ [a2]):=⟨_,rfl⟩
         replace H:(Qba.l0 k2 a1 a2 y624 (l0_0.length:Int) (wrap64 (x23_2+1)))=some (r1,r2):=by first|(rw [hy624];with_reducible exact H)|(have H2_:=(Option.bind_some _ _).symm.trans H;rw [hy624];with_reducible exact H2_)|(have H2_:=(Option.bind_some _ _).symm.trans H;with_reducible exact H2_)|with_reducible exact H|(rw [hy624];exact H)|exact H
         have Ny624:=Zk hy624;clear hy624;have H':=Zk H;clear H;go_wp2_with (first|(refine gA (some 29) Try.func59 #[.int .i64 a1, .int .i64 x23_2] ?_;(with_reducible refine (Qch.calls a1 x23_2 false _ A16.out).mono ?_);rintro e w' ⟨rfl,⟨nd,rfl⟩⟩;refine ⟨_,rfl,?_⟩)|((with_reducible refine Qcl (b:= .append) (xs:= #[.tmp 30, .tmp 32]) rfl ?_);at_builtin;refine Kd.R_append (Kd.int .i64) (w0:=w) w.heap.size rfl (.tmp 30) (.tmp 32) 24 3 (.int .i64 0) 8 rfl Try.underlying24 Qed rfl (by decide) (by omega) u8 x8_2 a2 [.int .i64 a2] (fun _=>True) (fun _=>False) rfl rfl ?aP (fun _ hk=>hk.elim) ?aF ?aO ?aB ?aS ?aL ?_;(case aP=>exact rfl);(case aB=>exact (vB HB));(case aF=>exact (fun _ _=>trivial));(case aO=>exact (uR HO_8));(case aS=>exact (Qh (vB HB)));(case aL=>have:=LMc20.out;omega);intro v625 w21 ho hb hg hat;rw [←Ny624.out] at ho;replace BK617:=Zk (Qb8 (uK BK617) hg (Kd.R_ne HO_8.out BK617.out (by decide)));replace HB:=Zk (hb);have HO626:=Zk (ho);clear HO_8;clear ho hb hg hat));go_roundg k2
         case measure=>have:=HJ3.out;have:=HK2.out;omega
         case rel=>exact ⟨(y624),(wrap64 (x23_2+1)),(by first|rfl|(simp;done)|(simp [*];done)),H',⟨by have:=HJ3.out;have:=HK2.out;omega⟩,⟨uR HO626⟩,⟨uK BK617⟩,⟨(vB HB)⟩⟩
        ·
         rw [if_neg c20] at H;exact absurd H (by simp)
      ·
       rw [if_neg c15] at H;have c15b0:=decide_eq_false c15;clear c15;simp only [Option.some.injEq,Prod.mk.injEq] at H;obtain ⟨rfl,rfl⟩:=H;go_wp2
       go_ret2
       exact ⟨_,by first|rfl|(simp [Qe,Qf] <;>rfl)|(simp [*,Qe,Qf] <;>rfl),uR HO_8,(vB HB)⟩
def Qby.l0:Nat→Int→Int→List Int→Int→Int→List Int→Option (Int)
 |0,_,_,_,_,_,_=>none
 |k+1,x1,x5,x9,x10,x11,x628000=>if x11<x10 then (if 0≤x11 then (if x11<(x9.length:Int) then (if 0≤(rd x9 x11) then (if (rd x9 x11)<(x628000.length:Int) then (if (Go.bits .and .i64 (rd x628000 (rd x9 x11)) x1)=0 then (Qby.l0 k x1 (Go.bits .or .i64 x5 (shl .i64 1 (rd x9 x11))) x9 x10 (wrap64 (x11+1)) x628000) else (Qby.l0 k x1 x5 x9 x10 (wrap64 (x11+1)) x628000)) else (none)) else (none)) else (none)) else (none)) else (some x5)
def Qby.f (k:Nat) (l0_0:List Int) (a1:Int):Option (Int):=(Qbr.f k a1).bind fun t628=>(Qby.l0 k a1 0 t628 (t628.length:Int) 0 l0_0)
theorem Qby.mono_l: ∀ k,(∀ y0 y1 y2 y3 y4 y5,LeO (Qby.l0 k y0 y1 y2 y3 y4 y5) (Qby.l0 (k+1) y0 y1 y2 y3 y4 y5))
 |0=>fun _ _ _ _ _ _ r h=>by simp [Qby.l0] at h
 |k+1=>by
  have ih0:=Qby.mono_l k
  ·
   intro y0 y1 y2 y3 y4 y5;unfold Qby.l0
   repeat' first
   |(with_reducible exact ih0 _ _ _ _ _ _)
   |(with_reducible exact Qbr.mono _ _)
   |(with_reducible exact LeO.refl _)
   |(with_reducible exact LeO.none _)
   |(with_reducible refine LeO.ite ?_ ?_)
   |(with_reducible refine LeO.bind ?_ (fun _=> ?_))
   |exact ih0 _ _ _ _ _ _
   |exact Qbr.mono _ _
   |exact LeO.none _
   |refine LeO.ite ?_ ?_
   |refine LeO.bind ?_ (fun _=> ?_)
theorem Qby.mono: ∀ a0 a1 k,LeO (Qby.f k a0 a1) (Qby.f (k+1) a0 a1):=by
 intro a0 a1 k;have ih0:=Qby.mono_l k;unfold Qby.f
 repeat' (with_reducible first|apply ih0|apply Qbr.mono|exact LeO.refl _|exact LeO.none _|refine LeO.ite ?_ ?_|refine LeO.bind ?_ (fun _=> ?_))
set_option maxHeartbeats 8000000 in
set_option maxRecDepth 100000 in
theorem Qby.calls (k:Nat) (A0_0:Option Addr) (c0_0:Nat) (l0_0:List Int) (a1:Int) (r:Int) (w:World) (hr0_0:Kd.C (Kd.int .i64) w A0_0 l0_0.length l0_0) (hc0_0:l0_0.length≤c0_0) (h:Qby.f k l0_0 a1=some r):
 Calls Try.prog 140 #[.agg #[.slice A0_0 l0_0.length c0_0], .int .i64 a1] w fun e w'=>e= .returned (.int .i64 r)∧Below w.heap.size w w':=by
 have hu26:=Try.underlying26;have HR0_0:=Zk hr0_0;have HC0_0:=Zk hc0_0;clear hr0_0 hc0_0;have HB:=Zk (Below.refl w.heap.size w);have H:((Qbr.f k a1).bind fun t628=>(Qby.l0 k a1 0 t628 (t628.length:Int) 0 l0_0))=some r:=h;clear h;obtain ⟨t628,A3,H⟩:=bs H;(try dsimp only at H)
 have H':=Zk H;clear H;go_enter Try.func140,Try.ntmps140;go_wp2_with (first|(refine bE (N:=2) (cs:= #[.slice A0_0 l0_0.length c0_0]) (t:=26) ?_;intro gb627 hg w4 hbox hb;have BK627:=Zk (hbox);have GW627:=Zk ((by rw [hg];exact (Qh (uB HB)):w.heap.size≤gb627));have GE627:=GW627;replace HB:=Zk (Qc (uB HB) hb);clear hb hbox hg)|(refine gA (some 9) Try.func116 #[.int .i64 a1] ?_;(with_reducible refine (Qbr.calls k a1 t628 _ A3.out).mono ?_);rintro e w5 ⟨v629,rfl,ho0,hb⟩;refine ⟨_,rfl,?_⟩;have HO630:=Zk (Kd.R_lower ho0 (Qh (vB HB)));replace BK627:=Zk (Qd (uK BK627) hb);replace HB:=Zk (Qc (vB HB) hb);(try clear hb ho0);obtain ⟨Ao6,co6,eo6⟩:=Kd.R_slice HO630.out;subst eo6))
 go_loopg [5,11] k (fun kq v5 v11 w'=> ∃ (x5_1:Int) (x11_1:Int),v5= .int .i64 x5_1∧v11= .int .i64 x11_1∧Z0 (Qby.l0 kq a1 x5_1 t628 (t628.length:Int) x11_1 l0_0=some r)∧Z0 (kq≤k)∧Z0 (Kd.R (Kd.int .i64) 3 w' w.heap.size (fun _=>True) (.slice Ao6 t628.length co6) t628)∧Z0 (w'.heap[gb627]? =some (.cells #[(.slice A0_0 l0_0.length c0_0)] 26 (0,0)))∧Z0 (Below w.heap.size w w'))
 case atStart=>exact ⟨(0),(0),(by first|rfl|(simp;done)|(simp [*];done)),(by first|rfl|(simp;done)|(simp [*];done)),H',⟨Nat.le_refl _⟩,⟨uR HO630⟩,⟨uK BK627⟩,⟨(vB HB)⟩⟩
 case round=>
  clear H'
  skip
  obtain ⟨x5_1,x11_1,rfl,rfl,HA,HK1,HO_9,BK627,HB⟩:=hrel;cases gk with
  |zero=>exact absurd HA.out (by simp [Qby.l0])
  |succ k1=>
   have H:=HA.out;clear HA;simp only [Qby.l0] at H
   by_cases c7:x11_1<(t628.length:Int)
   ·
    rw [if_pos c7] at H;have c7b0:=decide_eq_true c7;clear c7
    by_cases c8:0≤x11_1
    ·
     rw [if_pos c8] at H;have c8b0:=decide_eq_true c8;clear c8
     by_cases c9:x11_1<(t628.length:Int)
     ·
      rw [if_pos c9] at H;have c9b0:=decide_eq_true c9;clear c9
      by_cases c10:0≤(rd t628 x11_1)
      ·
       rw [if_pos c10] at H;have c10b0:=decide_eq_true c10;clear c10
       by_cases c11:(rd t628 x11_1)<(l0_0.length:Int)
       ·
        rw [if_pos c11] at H;have c11b0:=decide_eq_true c11;clear c11
        by_cases c12:(Go.bits .and .i64 (rd l0_0 (rd t628 x11_1)) a1)=0
        ·
         rw [if_pos c12] at H;have c12b0:((Go.bits .and .i64 (rd l0_0 (rd t628 x11_1)) a1)==0)=true:=beq_iff_eq.mpr c12;have c12b1:((Go.bits .and .i64 (rd l0_0 (rd t628 x11_1)) a1) !=0)=false:=bne_eq_false_iff_eq.mpr c12;clear c12;have c13b0:=eq_true (of_decide_eq_true (by first|(with_reducible assumption)|assumption):0≤(rd t628 x11_1));obtain ⟨ji14,hji14⟩: ∃ j_:Int,(shl .i64 1 (rd t628 x11_1))=j_:=⟨_,rfl⟩
         replace H:(Qby.l0 k1 a1 (Go.bits .or .i64 x5_1 (ji14)) t628 (t628.length:Int) (wrap64 (x11_1+1)) l0_0)=some r:=by first|(rw [hji14] at H;exact H)|(simp only [hji14] at H ⊢;exact H)
         have hji14_:(IntKind.i64.wrap (1*2 ^ min (rd t628 x11_1).toNat 64))=ji14:=hji14;have hji14z:(rd t628 x11_1)≤64→(IntKind.i64.wrap (1*2 ^ (rd t628 x11_1).toNat))=ji14:=Qeb hji14;have hji14u:(IntKind.i64.wrap (2 ^ min (rd t628 x11_1).toNat 64))=ji14:=by have h_:=hji14_;rw [Int.one_mul] at h_;exact h_
         have hji14v:(rd t628 x11_1)≤64→(IntKind.i64.wrap (2 ^ (rd t628 x11_1).toNat))=ji14:=fun hle_=>by have h_:=hji14z hle_;rw [Int.one_mul] at h_;exact h_
         have hji14y:(wrap64 (1*2 ^ min (rd t628 x11_1).toNat 64))=ji14:=(Qci _).symm.trans hji14_;have hji14x:(rd t628 x11_1)≤64→(wrap64 (1*2 ^ (rd t628 x11_1).toNat))=ji14:=fun h_=>(Qci _).symm.trans (hji14z h_)
         have H':=Zk H;clear H;have p631:0≤(x11_1:Int):=of_decide_eq_true (by first|(with_reducible assumption)|assumption);have q631:x11_1<(t628.length:Int):=of_decide_eq_true (by first|(with_reducible assumption)|assumption);obtain ⟨ad631,e631,hx631_0⟩:=Kd.at_int (Kd.R_reads' HO_9.out).2.2 x11_1 p631 q631;cases e631;replace p631:=eq_true p631;replace q631:=eq_true q631;have hcz15_0:=bC BK627;have hfz15_0:=Qg BK627.out 0;have p632:0≤((rd t628 x11_1):Int):=of_decide_eq_true (by first|(with_reducible assumption)|assumption);have q632:(rd t628 x11_1)<(l0_0.length:Int):=of_decide_eq_true (by first|(with_reducible assumption)|assumption);obtain ⟨ad632,e632,hx632_0⟩:=Kd.at_int HR0_0.out (rd t628 x11_1) p632 q632;cases e632;replace hx632_0:=(HB.out.cell (World.block_lt_of_cell? w _ hx632_0)).trans hx632_0;replace p632:=eq_true p632;replace q632:=eq_true q632;go_wp2;go_roundg k1
         case measure=>have:=HK1.out;omega
         case rel=>exact ⟨(Go.bits .or .i64 x5_1 (ji14)),(wrap64 (x11_1+1)),(by first|rfl|(simp;done)|(simp only [←hji14] <;>(first|rfl|simp))|(simp [*];done)),(by first|rfl|(simp;done)|(simp [*];done)),H',⟨by have:=HK1.out;omega⟩,⟨uR HO_9⟩,⟨uK BK627⟩,⟨(vB HB)⟩⟩
        ·
         rw [if_neg c12] at H;have c12b0:((Go.bits .and .i64 (rd l0_0 (rd t628 x11_1)) a1)==0)=false:=beq_eq_false_iff_ne.mpr c12;have c12b1:((Go.bits .and .i64 (rd l0_0 (rd t628 x11_1)) a1) !=0)=true:=bne_iff_ne.mpr c12;have H':=Zk H;clear H;have p631:0≤(x11_1:Int):=of_decide_eq_true (by first|(with_reducible assumption)|assumption);have q631:x11_1<(t628.length:Int):=of_decide_eq_true (by first|(with_reducible assumption)|assumption);obtain ⟨ad631,e631,hx631_0⟩:=Kd.at_int (Kd.R_reads' HO_9.out).2.2 x11_1 p631 q631;cases e631;replace p631:=eq_true p631;replace q631:=eq_true q631;have hcz16_0:=bC BK627;have hfz16_0:=Qg BK627.out 0;have p632:0≤((rd t628 x11_1):Int):=of_decide_eq_true (by first|(with_reducible assumption)|assumption);have q632:(rd t628 x11_1)<(l0_0.length:Int):=of_decide_eq_true (by first|(with_reducible assumption)|assumption);obtain ⟨ad632,e632,hx632_0⟩:=Kd.at_int HR0_0.out (rd t628 x11_1) p632 q632;cases e632;replace hx632_0:=(HB.out.cell (World.block_lt_of_cell? w _ hx632_0)).trans hx632_0;replace p632:=eq_true p632;replace q632:=eq_true q632;go_wp2;go_roundg k1
         case measure=>have:=HK1.out;omega
         case rel=>exact ⟨(x5_1),(wrap64 (x11_1+1)),(by first|rfl|(simp;done)|(simp [*];done)),(by first|rfl|(simp;done)|(simp [*];done)),H',⟨by have:=HK1.out;omega⟩,⟨uR HO_9⟩,⟨uK BK627⟩,⟨(vB HB)⟩⟩
       ·
        rw [if_neg c11] at H;exact absurd H (by simp)
      ·
       rw [if_neg c10] at H;exact absurd H (by simp)
     ·
      rw [if_neg c9] at H;exact absurd H (by simp)
    ·
     rw [if_neg c8] at H;exact absurd H (by simp)
   ·
    rw [if_neg c7] at H;have c7b0:=decide_eq_false c7;clear c7;obtain rfl:=Option.some.inj H;go_wp2
    go_ret
    exact ⟨by first|rfl|(simp [Qe,Qf] <;>rfl)|(simp [*,Qe,Qf] <;>rfl),(vB HB)⟩
def Qcs.f (k:Nat) (l0_0:List Int) (a1:Int):Option (Int):=(Qc0.f l0_0).bind fun t634=>((Qby.f k l0_0 (Go.bits .andNot .i64 t634 a1)).bind fun t635=>((Q9.f k l0_0 t635).bind fun t636=>(some t636)))
theorem Qcs.mono: ∀ a0 a1 k,LeO (Qcs.f k a0 a1) (Qcs.f (k+1) a0 a1):=by
 intro a0 a1 k;unfold Qcs.f
 repeat' (with_reducible first|apply Qby.mono|apply Q9.mono|exact LeO.refl _|exact LeO.none _|refine LeO.ite ?_ ?_|refine LeO.bind ?_ (fun _=> ?_))
def Qcs.T1:Bool × List (List Nat × List Nat):=(true,[([],[]),([],[]),([],[]),([2],[2]),([],[]),([3,4],[3,4]),([1,5,3],[1,5]),([0,6,6],[0,6]),([7,7,0,1,2,3,4,5,6,7],[7])])
def Qcs.B1:List Nat:= [0,0,0,4,0,28,62,127,255]
theorem Qcs.tab1:rtab .any (Qfx Try.f134 1)=Qcs.T1:=by kernel_rfl
theorem Qcs.bits1:Qem Qcs.T1.2 Qcs.B1=true:=by kernel_rfl
set_option maxHeartbeats 8000000 in
set_option maxRecDepth 100000 in
theorem Qcs.calls (k:Nat) (A0_0:Option Addr) (c0_0:Nat) (l0_0:List Int) (a1:Int) (r:Int) (w:World) (hr0_0:Kd.C (Kd.int .i64) w A0_0 l0_0.length l0_0) (hc0_0:l0_0.length≤c0_0) (h:Qcs.f k l0_0 a1=some r):
 Calls Try.prog 134 #[.agg #[.slice A0_0 l0_0.length c0_0], .int .i64 a1] w fun e w'=>e= .returned (.int .i64 r)∧Below w.heap.size w w':=by
 have hu26:=Try.underlying26;have HR0_0:=Zk hr0_0;have HC0_0:=Zk hc0_0;clear hr0_0 hc0_0;have HB:=Zk (Below.refl w.heap.size w);have H:((Qc0.f l0_0).bind fun t634=>((Qby.f k l0_0 (Go.bits .andNot .i64 t634 a1)).bind fun t635=>((Q9.f k l0_0 t635).bind fun t636=>(some t636))))=some r:=h;clear h;obtain ⟨t634,A3,H⟩:=bs H;(try dsimp only at H)
 obtain ⟨t635,A4,H⟩:=bs H;(try dsimp only at H)
 obtain ⟨t636,A5,H⟩:=bs H;(try dsimp only at H)
 obtain rfl:=Option.some.inj H;go_enter Try.func134,Try.ntmps134
 try go_wp2_with (first|(refine bE (N:=2) (cs:= #[.slice A0_0 l0_0.length c0_0]) (t:=26) ?_;intro gb633 hg w6 hbox hb;have BK633:=Zk (hbox);have GW633:=Zk ((by rw [hg];exact (Qh (uB HB)):w.heap.size≤gb633));have GE633:=GW633;replace HB:=Zk (Qc (uB HB) hb);clear hb hbox hg))
 replace BK633:=Zk (Qbj BK633.out);replace HB:=Zk (Qbb HB.out);refine sU (n:=9) (S:=fun w'=>w'.cell? ⟨gb633,0,none⟩=some (.slice A0_0 l0_0.length c0_0)) (ds:= []) ((Qb4 BK633.out 0).trans rfl) (fun hHeld=> ?_);refine Qe5 Qcs.tab1 Qcs.bits1 (fun HT_ HW_=> ?_);generalize w6.drew=w7 at BK633 HB hHeld ⊢;refine pU 4 9 ?_;refine tU 0 5 hHeld ?_;refine tU 1 6 hHeld ?_;refine tU 2 7 hHeld ?_;refine oU 3 (some 8) fun K hK=> ?_
 refine Qfe Try.func123 (by kernel_rfl) rfl #[.agg #[.slice A0_0 l0_0.length c0_0]] (by rfl) rfl rfl (by (try simp only [List.map_toArray,List.map_cons,List.map_nil]);first|done|rfl|(simp only [List.length_drop,List.length_take];rfl)) ?_
 with_reducible refine (Qc0.calls _ _ l0_0 t634 _ ?side1 ?side2 A3.out).mono ?_
 (case side1=>repeat (first|exact (Kd.C_below HR0_0.out HB.out)|(with_reducible refine Kd.C_alloc ?_ _)|(with_reducible refine Kd.C_drewN ?_ _)|(with_reducible refine Kd.C_drew ?_)))
 (case side2=>exact HC0_0.out)
 rintro e w8 ⟨rfl,hb⟩;refine ⟨_,rfl,?_⟩;replace BK633:=Zk (Qd (uK BK633) hb);replace HB:=Zk (Qc (vB HB) hb)
 skip
 skip
 skip
 skip
 refine hK.out _ _ ((Qb4 BK633.out 0).trans rfl) (fun hHeld=> ?_);clear hK K;refine nU 8 ?_;refine pU 5 10 ?_;refine oU 6 (some 11) fun K hK=> ?_
 refine Qfe Try.func140 (by kernel_rfl) rfl #[.agg #[.slice A0_0 l0_0.length c0_0], .int .i64 (Go.bits .andNot .i64 t634 a1)] (by rfl) rfl rfl (by (try simp only [List.map_toArray,List.map_cons,List.map_nil]);first|done|rfl|(simp only [List.length_drop,List.length_take];rfl)) ?_
 with_reducible refine (Qby.calls k _ _ l0_0 (Go.bits .andNot .i64 t634 a1) t635 _ ?side1 ?side2 A4.out).mono ?_
 (case side1=>repeat (first|exact (Kd.C_below HR0_0.out HB.out)|(with_reducible refine Kd.C_alloc ?_ _)|(with_reducible refine Kd.C_drewN ?_ _)|(with_reducible refine Kd.C_drew ?_)))
 (case side2=>exact HC0_0.out)
 rintro e w9 ⟨rfl,hb⟩;refine ⟨_,rfl,?_⟩;replace BK633:=Zk (Qd (uK BK633) hb);replace HB:=Zk (Qc (vB HB) hb)
 skip
 skip
 skip
 skip
 refine hK.out _ _ ((Qb4 BK633.out 0).trans rfl) (fun hHeld=> ?_);clear hK K;refine nU 11 ?_;refine oU 7 (some 12) fun K hK=> ?_
 refine Qfe Try.func125 (by kernel_rfl) rfl #[.agg #[.slice A0_0 l0_0.length c0_0], .int .i64 t635] (by rfl) rfl rfl (by (try simp only [List.map_toArray,List.map_cons,List.map_nil]);first|done|rfl|(simp only [List.length_drop,List.length_take];rfl)) ?_
 with_reducible refine (Q9.calls k _ _ l0_0 t635 t636 _ ?side1 ?side2 A5.out).mono ?_
 (case side1=>repeat (first|exact (Kd.C_below HR0_0.out HB.out)|(with_reducible refine Kd.C_alloc ?_ _)|(with_reducible refine Kd.C_drewN ?_ _)|(with_reducible refine Kd.C_drew ?_)))
 (case side2=>exact HC0_0.out)
 rintro e w10 ⟨rfl,hb⟩;refine ⟨_,rfl,?_⟩;replace BK633:=Zk (Qd (uK BK633) hb);replace HB:=Zk (Qc (vB HB) hb)
 skip
 skip
 skip
 skip
 refine hK.out _ _ ((Qb4 BK633.out 0).trans rfl) (fun hHeld=> ?_);clear hK K;refine nU 12 ?_;refine pU 8 4 ?_;refine dU ?_
 try go_wp2
 go_ret
 exact ⟨by first|rfl|(simp [Qe,Qf] <;>rfl)|(simp [*,Qe,Qf] <;>rfl),(vB HB)⟩
def Qde.f (k:Nat) (l0_0:List Int) (a1:Int) (a2:Int):Option (Int):=if 0≤a2 then ((Q9.f k l0_0 (Go.bits .xor .i64 a1 (shl .i64 1 a2))).bind fun t638=>(if t638=(Go.bits .xor .i64 a1 (shl .i64 1 a2)) then (some (Go.bits .xor .i64 a1 (shl .i64 1 a2))) else (some a1))) else (none)
theorem Qde.mono: ∀ a0 a1 a2 k,LeO (Qde.f k a0 a1 a2) (Qde.f (k+1) a0 a1 a2):=by
 intro a0 a1 a2 k;unfold Qde.f
 repeat' (with_reducible first|apply Q9.mono|exact LeO.refl _|exact LeO.none _|refine LeO.ite ?_ ?_|refine LeO.bind ?_ (fun _=> ?_))
set_option maxHeartbeats 8000000 in
set_option maxRecDepth 100000 in
theorem Qde.calls (k:Nat) (A0_0:Option Addr) (c0_0:Nat) (l0_0:List Int) (a1:Int) (a2:Int) (r:Int) (w:World) (hr0_0:Kd.C (Kd.int .i64) w A0_0 l0_0.length l0_0) (hc0_0:l0_0.length≤c0_0) (h:Qde.f k l0_0 a1 a2=some r):
 Calls Try.prog 141 #[.agg #[.slice A0_0 l0_0.length c0_0], .int .i64 a1, .int .i64 a2] w fun e w'=>e= .returned (.int .i64 r)∧Below w.heap.size w w':=by
 have hu26:=Try.underlying26;have HR0_0:=Zk hr0_0;have HC0_0:=Zk hc0_0;clear hr0_0 hc0_0;have HB:=Zk (Below.refl w.heap.size w);have H:(if 0≤a2 then ((Q9.f k l0_0 (Go.bits .xor .i64 a1 (shl .i64 1 a2))).bind fun t638=>(if t638=(Go.bits .xor .i64 a1 (shl .i64 1 a2)) then (some (Go.bits .xor .i64 a1 (shl .i64 1 a2))) else (some a1))) else (none))=some r:=h;clear h
 by_cases c4:0≤a2
 ·
  rw [if_pos c4] at H;have c4b0:=eq_true c4;have c4b1:=decide_eq_true c4;clear c4;obtain ⟨ji5,hji5⟩: ∃ j_:Int,(shl .i64 1 a2)=j_:=⟨_,rfl⟩
  replace H:((Q9.f k l0_0 (Go.bits .xor .i64 a1 (ji5))).bind fun t638=>(if t638=(Go.bits .xor .i64 a1 (ji5)) then (some (Go.bits .xor .i64 a1 (ji5))) else (some a1)))=some r:=by first|(rw [hji5] at H;exact H)|(simp only [hji5] at H ⊢;exact H)
  have hji5_:(IntKind.i64.wrap (1*2 ^ min a2.toNat 64))=ji5:=hji5;have hji5z:a2≤64→(IntKind.i64.wrap (1*2 ^ a2.toNat))=ji5:=Qeb hji5;have hji5u:(IntKind.i64.wrap (2 ^ min a2.toNat 64))=ji5:=by have h_:=hji5_;rw [Int.one_mul] at h_;exact h_
  have hji5v:a2≤64→(IntKind.i64.wrap (2 ^ a2.toNat))=ji5:=fun hle_=>by have h_:=hji5z hle_;rw [Int.one_mul] at h_;exact h_
  have hji5y:(wrap64 (1*2 ^ min a2.toNat 64))=ji5:=(Qci _).symm.trans hji5_;have hji5x:a2≤64→(wrap64 (1*2 ^ a2.toNat))=ji5:=fun h_=>(Qci _).symm.trans (hji5z h_)
  obtain ⟨t638,A6,H⟩:=bs H;(try dsimp only at H)
  by_cases c7:t638=(Go.bits .xor .i64 a1 (ji5))
  ·
   rw [if_pos c7] at H;have c7b0:(t638==(Go.bits .xor .i64 a1 (ji5)))=true:=beq_iff_eq.mpr c7;have c7b1:(t638 !=(Go.bits .xor .i64 a1 (ji5)))=false:=bne_eq_false_iff_eq.mpr c7;clear c7;obtain rfl:=Option.some.inj H;go_enter Try.func141,Try.ntmps141;go_wp2_with (first|(refine bE (N:=3) (cs:= #[.slice A0_0 l0_0.length c0_0]) (t:=26) ?_;intro gb637 hg w8 hbox hb;have BK637:=Zk (hbox);have GW637:=Zk ((by rw [hg];exact (Qh (uB HB)):w.heap.size≤gb637));have GE637:=GW637;replace HB:=Zk (Qc (uB HB) hb);clear hb hbox hg;have hcz9_0:=bC BK637;have hfz9_0:=Qg BK637.out 0)|((with_reducible refine Qdx (f:=125) rfl ?_);refine Qe3 (some 14) rfl rfl Try.func125 (by kernel_rfl) rfl #[.agg #[.slice A0_0 l0_0.length c0_0], .int .i64 (Go.bits .xor .i64 a1 (ji5))] rfl (by (try simp only [List.map_toArray,List.map_cons,List.map_nil]);first|done|(simp only [hji5];rfl)|rfl|(simp only [List.length_drop,List.length_take];rfl)) ?_;(with_reducible refine (Q9.calls k _ _ l0_0 (Go.bits .xor .i64 a1 (ji5)) t638 _ (uD HR0_0 HB) HC0_0.out A6.out).mono ?_);rintro e w10 ⟨rfl,hb⟩;refine ⟨_,rfl,?_⟩;replace BK637:=Zk (Qd (uK BK637) hb);replace HB:=Zk (Qc (vB HB) hb);(try clear hb)))
   go_ret
   exact ⟨by first|rfl|(simp [Qe,Qf] <;>rfl)|(simp only [←hji5];first|rfl|(simp [Qe,Qf] <;>rfl))|(simp [*,Qe,Qf] <;>rfl),(vB HB)⟩
  ·
   rw [if_neg c7] at H;have c7b0:(t638==(Go.bits .xor .i64 a1 (ji5)))=false:=beq_eq_false_iff_ne.mpr c7;have c7b1:(t638 !=(Go.bits .xor .i64 a1 (ji5)))=true:=bne_iff_ne.mpr c7;obtain rfl:=Option.some.inj H;go_enter Try.func141,Try.ntmps141;go_wp2_with (first|(refine bE (N:=3) (cs:= #[.slice A0_0 l0_0.length c0_0]) (t:=26) ?_;intro gb637 hg w11 hbox hb;have BK637:=Zk (hbox);have GW637:=Zk ((by rw [hg];exact (Qh (uB HB)):w.heap.size≤gb637));have GE637:=GW637;replace HB:=Zk (Qc (uB HB) hb);clear hb hbox hg;have hcz12_0:=bC BK637;have hfz12_0:=Qg BK637.out 0)|((with_reducible refine Qdx (f:=125) rfl ?_);refine Qe3 (some 14) rfl rfl Try.func125 (by kernel_rfl) rfl #[.agg #[.slice A0_0 l0_0.length c0_0], .int .i64 (Go.bits .xor .i64 a1 (ji5))] rfl (by (try simp only [List.map_toArray,List.map_cons,List.map_nil]);first|done|(simp only [hji5];rfl)|rfl|(simp only [List.length_drop,List.length_take];rfl)) ?_;(with_reducible refine (Q9.calls k _ _ l0_0 (Go.bits .xor .i64 a1 (ji5)) t638 _ (uD HR0_0 HB) HC0_0.out A6.out).mono ?_);rintro e w13 ⟨rfl,hb⟩;refine ⟨_,rfl,?_⟩;replace BK637:=Zk (Qd (uK BK637) hb);replace HB:=Zk (Qc (vB HB) hb);(try clear hb)))
   go_ret
   exact ⟨by first|rfl|(simp [Qe,Qf] <;>rfl)|(simp only [←hji5];first|rfl|(simp [Qe,Qf] <;>rfl))|(simp [*,Qe,Qf] <;>rfl),(vB HB)⟩
 ·
  rw [if_neg c4] at H;exact absurd H (by simp)
def Qcc.l0:Nat→Int→Int→Int→List Int→Option (Int)
 |0,_,_,_,_=>none
 |k+1,x1,x7,x8,x640000=>if x8<x7 then ((Qde.f k x640000 x1 x8).bind fun t641=>(Qcc.l0 k t641 x7 (wrap64 (x8+1)) x640000)) else (some x1)
def Qcc.f (k:Nat) (l0_0:List Int) (a1:Int):Option (Int):=(Qb1.f l0_0).bind fun t640=>(Qcc.l0 k a1 t640 0 l0_0)
theorem Qcc.mono_l: ∀ k,(∀ y0 y1 y2 y3,LeO (Qcc.l0 k y0 y1 y2 y3) (Qcc.l0 (k+1) y0 y1 y2 y3))
 |0=>fun _ _ _ _ r h=>by simp [Qcc.l0] at h
 |k+1=>by
  have ih0:=Qcc.mono_l k
  ·
   intro y0 y1 y2 y3;unfold Qcc.l0
   repeat' first
   |(with_reducible exact ih0 _ _ _ _)
   |(with_reducible exact Qde.mono _ _ _ _)
   |(with_reducible exact LeO.refl _)
   |(with_reducible exact LeO.none _)
   |(with_reducible refine LeO.ite ?_ ?_)
   |(with_reducible refine LeO.bind ?_ (fun _=> ?_))
   |exact ih0 _ _ _ _
   |exact Qde.mono _ _ _ _
   |exact LeO.none _
   |refine LeO.ite ?_ ?_
   |refine LeO.bind ?_ (fun _=> ?_)
theorem Qcc.mono: ∀ a0 a1 k,LeO (Qcc.f k a0 a1) (Qcc.f (k+1) a0 a1):=by
 intro a0 a1 k;have ih0:=Qcc.mono_l k;unfold Qcc.f
 repeat' (with_reducible first|apply ih0|apply Qde.mono|exact LeO.refl _|exact LeO.none _|refine LeO.ite ?_ ?_|refine LeO.bind ?_ (fun _=> ?_))
set_option maxHeartbeats 8000000 in
set_option maxRecDepth 100000 in
theorem Qcc.calls (k:Nat) (A0_0:Option Addr) (c0_0:Nat) (l0_0:List Int) (a1:Int) (r:Int) (w:World) (hr0_0:Kd.C (Kd.int .i64) w A0_0 l0_0.length l0_0) (hc0_0:l0_0.length≤c0_0) (h:Qcc.f k l0_0 a1=some r):
 Calls Try.prog 135 #[.agg #[.slice A0_0 l0_0.length c0_0], .int .i64 a1] w fun e w'=>e= .returned (.int .i64 r)∧Below w.heap.size w w':=by
 have hu26:=Try.underlying26;have HR0_0:=Zk hr0_0;have HC0_0:=Zk hc0_0;clear hr0_0 hc0_0;have HB:=Zk (Below.refl w.heap.size w);have H:((Qb1.f l0_0).bind fun t640=>(Qcc.l0 k a1 t640 0 l0_0))=some r:=h;clear h;obtain ⟨t640,A3,H⟩:=bs H;(try dsimp only at H)
 have H':=Zk H;clear H;go_enter Try.func135,Try.ntmps135;go_wp2_with (first|(refine bE (N:=2) (cs:= #[.slice A0_0 l0_0.length c0_0]) (t:=26) ?_;intro gb639 hg w4 hbox hb;have BK639:=Zk (hbox);have GW639:=Zk ((by rw [hg];exact (Qh (uB HB)):w.heap.size≤gb639));have GE639:=GW639;replace HB:=Zk (Qc (uB HB) hb);clear hb hbox hg;have hcz5_0:=bC BK639;have hfz5_0:=Qg BK639.out 0)|(refine gA (some 7) Try.func65 #[.agg #[.slice A0_0 l0_0.length c0_0]] ?_;(with_reducible refine (Qb1.calls _ _ l0_0 t640 _ (uD HR0_0 HB) HC0_0.out A3.out).mono ?_);rintro e w6 ⟨rfl,hb⟩;refine ⟨_,rfl,?_⟩;replace BK639:=Zk (Qd (uK BK639) hb);replace HB:=Zk (Qc (vB HB) hb);(try clear hb)))
 go_loopg [1,8] k (fun kq v1 v8 w'=> ∃ (x1_1:Int) (x8_1:Int),v1= .int .i64 x1_1∧v8= .int .i64 x8_1∧Z0 (Qcc.l0 kq x1_1 t640 x8_1 l0_0=some r)∧Z0 (kq≤k)∧Z0 (w'.heap[gb639]? =some (.cells #[(.slice A0_0 l0_0.length c0_0)] 26 (0,0)))∧Z0 (Below w.heap.size w w'))
 case atStart=>exact ⟨(a1),(0),(by first|rfl|(simp;done)|(simp [*];done)),(by first|rfl|(simp;done)|(simp [*];done)),H',⟨Nat.le_refl _⟩,⟨uK BK639⟩,⟨(vB HB)⟩⟩
 case round=>
  clear H'
  try clear hcz5_0 hfz5_0
  obtain ⟨x1_1,x8_1,rfl,rfl,HA,HK1,BK639,HB⟩:=hrel;cases gk with
  |zero=>exact absurd HA.out (by simp [Qcc.l0])
  |succ k1=>
   have H:=HA.out;clear HA;simp only [Qcc.l0] at H
   by_cases c7:x8_1<t640
   ·
    rw [if_pos c7] at H;have c7b0:=decide_eq_true c7;clear c7;obtain ⟨t641,A8,H⟩:=bs H;(try dsimp only at H)
    have H':=Zk H;clear H;have hcz9_0:=bC BK639;have hfz9_0:=Qg BK639.out 0;go_wp2_with (first|(refine gA (some 14) Try.func141 #[.agg #[.slice A0_0 l0_0.length c0_0], .int .i64 x1_1, .int .i64 x8_1] ?_;(with_reducible refine (Qde.calls k1 _ _ l0_0 x1_1 x8_1 t641 _ (uD HR0_0 HB) HC0_0.out A8.out).mono ?_);rintro e w10 ⟨rfl,hb⟩;refine ⟨_,rfl,?_⟩;replace BK639:=Zk (Qd (uK BK639) hb);replace HB:=Zk (Qc (vB HB) hb);(try clear hb)));go_roundg k1
    case measure=>have:=HK1.out;omega
    case rel=>exact ⟨(t641),(wrap64 (x8_1+1)),(by first|rfl|(simp;done)|(simp [*];done)),(by first|rfl|(simp;done)|(simp [*];done)),H',⟨by have:=HK1.out;omega⟩,⟨uK BK639⟩,⟨(vB HB)⟩⟩
   ·
    rw [if_neg c7] at H;have c7b0:=decide_eq_false c7;clear c7;obtain rfl:=Option.some.inj H;go_wp2
    go_ret
    exact ⟨by first|rfl|(simp [Qe,Qf] <;>rfl)|(simp [*,Qe,Qf] <;>rfl),(vB HB)⟩
mutual
def Qbq.l0:Nat→Int→Int→Int→Int→List Int→Option (Int)
 |0,_,_,_,_,_=>none
 |k+1,x1,x2,x8,x9,x643000=>if x9<x8 then ((Qcs.f k x643000 x1).bind fun t643=>(Qbq.l0 k t643 x2 x8 (wrap64 (x9+1)) x643000)) else (Qbq.l1 k x1 (mx (wrap64 (-x2)) 0) 0 x643000)
def Qbq.l1:Nat→Int→Int→Int→List Int→Option (Int)
 |0,_,_,_,_=>none
 |k+1,x1,x17,x18,x643000=>if x18<x17 then ((Qcc.f k x643000 x1).bind fun t644=>(Qbq.l1 k t644 x17 (wrap64 (x18+1)) x643000)) else (some x1)
end
def Qbq.f (k:Nat) (l0_0:List Int) (a1:Int) (a2:Int):Option (Int):=Qbq.l0 k a1 a2 (mx a2 0) 0 l0_0
theorem Qbq.mono_l: ∀ k,(∀ y0 y1 y2 y3 y4,LeO (Qbq.l0 k y0 y1 y2 y3 y4) (Qbq.l0 (k+1) y0 y1 y2 y3 y4))∧(∀ y0 y1 y2 y3,LeO (Qbq.l1 k y0 y1 y2 y3) (Qbq.l1 (k+1) y0 y1 y2 y3))
 |0=>⟨fun _ _ _ _ _ r h=>by simp [Qbq.l0] at h,fun _ _ _ _ r h=>by simp [Qbq.l1] at h⟩
 |k+1=>by
  obtain ⟨ih0,ih1⟩:=Qbq.mono_l k;refine ⟨?_,?_⟩
  all_goals
   intros
   first|unfold Qbq.l0|unfold Qbq.l1
   repeat' (with_reducible first|apply ih0|apply ih1|apply Qcc.mono|apply Qcs.mono|exact LeO.refl _|exact LeO.none _|refine LeO.ite ?_ ?_|refine LeO.bind ?_ (fun _=> ?_))
theorem Qbq.mono: ∀ a0 a1 a2 k,LeO (Qbq.f k a0 a1 a2) (Qbq.f (k+1) a0 a1 a2):=by
 intro a0 a1 a2 k;obtain ⟨ih0,ih1⟩:=Qbq.mono_l k;unfold Qbq.f
 repeat' (with_reducible first|apply ih0|apply ih1|apply Qcc.mono|apply Qcs.mono|exact LeO.refl _|exact LeO.none _|refine LeO.ite ?_ ?_|refine LeO.bind ?_ (fun _=> ?_))
set_option maxHeartbeats 8000000 in
set_option maxRecDepth 100000 in
theorem Qbq.calls (k:Nat) (A0_0:Option Addr) (c0_0:Nat) (l0_0:List Int) (a1:Int) (a2:Int) (r:Int) (w:World) (hr0_0:Kd.C (Kd.int .i64) w A0_0 l0_0.length l0_0) (hc0_0:l0_0.length≤c0_0) (h:Qbq.f k l0_0 a1 a2=some r):
 Calls Try.prog 129 #[.agg #[.slice A0_0 l0_0.length c0_0], .int .i64 a1, .int .i64 a2] w fun e w'=>e= .returned (.int .i64 r)∧Below w.heap.size w w':=by
 have hu26:=Try.underlying26;have HR0_0:=Zk hr0_0;have HC0_0:=Zk hc0_0;clear hr0_0 hc0_0;have HB:=Zk (Below.refl w.heap.size w);have H:(Qbq.l0 k a1 a2 (mx a2 0) 0 l0_0)=some r:=h;clear h;obtain ⟨ji4,hji4⟩: ∃ j_:Int,(mx a2 0)=j_:=⟨_,rfl⟩
 replace H:(Qbq.l0 k a1 a2 ji4 0 l0_0)=some r:=by first|(rw [hji4] at H;exact H)|(simp only [hji4] at H ⊢;exact H)
 (try (have hji4l:0≤ji4:=by (rw [←hji4];unfold mx;(repeat' split)<;>omega)))
 (try (have hji4m:0≤ji4:=by omega))
 have hji4_:(if a2<0 then 0 else a2)=ji4:=hji4;have H':=Zk H;clear H;go_enter Try.func129,Try.ntmps129;go_wp2_with (first|(refine bE (N:=3) (cs:= #[.slice A0_0 l0_0.length c0_0]) (t:=26) ?_;intro gb642 hg w5 hbox hb;have BK642:=Zk (hbox);have GW642:=Zk ((by rw [hg];exact (Qh (uB HB)):w.heap.size≤gb642));have GE642:=GW642;replace HB:=Zk (Qc (uB HB) hb);clear hb hbox hg))
 go_loopg [1,9] k (fun kq v1 v9 w'=> ∃ (x1_1:Int) (x9_1:Int),v1= .int .i64 x1_1∧v9= .int .i64 x9_1∧Z0 (Qbq.l0 kq x1_1 a2 ji4 x9_1 l0_0=some r)∧Z0 (kq≤k)∧Z0 (w'.heap[gb642]? =some (.cells #[(.slice A0_0 l0_0.length c0_0)] 26 (0,0)))∧Z0 (Below w.heap.size w w'))
 case atStart=>exact ⟨(a1),(0),(by first|rfl|(simp;done)|(simp [*];done)),(by first|rfl|(simp;done)|(simp [*];done)),H',⟨Nat.le_refl _⟩,⟨uK BK642⟩,⟨(vB HB)⟩⟩
 case round=>
  clear H'
  skip
  obtain ⟨x1_1,x9_1,rfl,rfl,HA,HK1,BK642,HB⟩:=hrel;cases gk with
  |zero=>exact absurd HA.out (by simp [Qbq.l0])
  |succ k1=>
   have H:=HA.out;clear HA;simp only [Qbq.l0] at H
   by_cases c6:x9_1<ji4
   ·
    rw [if_pos c6] at H;have c6b0:=decide_eq_true c6;clear c6;obtain ⟨t643,A7,H⟩:=bs H;(try dsimp only at H)
    have H':=Zk H;clear H;have hcz8_0:=bC BK642;have hfz8_0:=Qg BK642.out 0;go_wp2_with (first|(refine gA (some 13) Try.func134 #[.agg #[.slice A0_0 l0_0.length c0_0], .int .i64 x1_1] ?_;(with_reducible refine (Qcs.calls k1 _ _ l0_0 x1_1 t643 _ (uD HR0_0 HB) HC0_0.out A7.out).mono ?_);rintro e w9 ⟨rfl,hb⟩;refine ⟨_,rfl,?_⟩;replace BK642:=Zk (Qd (uK BK642) hb);replace HB:=Zk (Qc (vB HB) hb);(try clear hb)));go_roundg k1
    case measure=>have:=HK1.out;omega
    case rel=>exact ⟨(t643),(wrap64 (x9_1+1)),(by first|rfl|(simp;done)|(simp [*];done)),(by first|rfl|(simp;done)|(simp [*];done)),H',⟨by have:=HK1.out;omega⟩,⟨uK BK642⟩,⟨(vB HB)⟩⟩
   ·
    rw [if_neg c6] at H;have c6b0:=decide_eq_false c6;clear c6;obtain ⟨ji10,hji10⟩: ∃ j_:Int,(mx (wrap64 (-a2)) 0)=j_:=⟨_,rfl⟩
    replace H:(Qbq.l1 k1 x1_1 ji10 0 l0_0)=some r:=by first|(rw [hji10] at H;exact H)|(simp only [hji10] at H ⊢;exact H)
    have hji10_:(if (wrap64 (-a2))<0 then 0 else (wrap64 (-a2)))=ji10:=hji10;have H':=Zk H;clear H;go_wp2
    go_loopg [1,18] k1 (fun kq v1 v18 w'=> ∃ (x1_2:Int) (x18_2:Int),v1= .int .i64 x1_2∧v18= .int .i64 x18_2∧Z0 (Qbq.l1 kq x1_2 ji10 x18_2 l0_0=some r)∧Z0 (kq≤k1)∧Z0 (w'.heap[gb642]? =some (.cells #[(.slice A0_0 l0_0.length c0_0)] 26 (0,0)))∧Z0 (Below w.heap.size w w'))
    case atStart=>exact ⟨(x1_1),(0),(by first|rfl|(simp;done)|(simp [*];done)),(by first|rfl|(simp;done)|(simp [*];done)),H',⟨Nat.le_refl _⟩,⟨uK BK642⟩,⟨(vB HB)⟩⟩
    case round=>
     clear H'
     try clear c6b0
     obtain ⟨x1_2,x18_2,rfl,rfl,HA,HK2,BK642,HB⟩:=hrel;cases gk with
     |zero=>exact absurd HA.out (by simp [Qbq.l1])
     |succ k2=>
      have H:=HA.out;clear HA;simp only [Qbq.l1] at H
      by_cases c11:x18_2<ji10
      ·
       rw [if_pos c11] at H;have c11b0:=decide_eq_true c11;clear c11;obtain ⟨t644,A12,H⟩:=bs H;(try dsimp only at H)
       have H':=Zk H;clear H;have hcz13_0:=bC BK642;have hfz13_0:=Qg BK642.out 0;go_wp2_with (first|(refine gA (some 22) Try.func135 #[.agg #[.slice A0_0 l0_0.length c0_0], .int .i64 x1_2] ?_;(with_reducible refine (Qcc.calls k2 _ _ l0_0 x1_2 t644 _ (uD HR0_0 HB) HC0_0.out A12.out).mono ?_);rintro e w14 ⟨rfl,hb⟩;refine ⟨_,rfl,?_⟩;replace BK642:=Zk (Qd (uK BK642) hb);replace HB:=Zk (Qc (vB HB) hb);(try clear hb)));go_roundg k2
       case measure=>have:=HK1.out;have:=HK2.out;omega
       case rel=>exact ⟨(t644),(wrap64 (x18_2+1)),(by first|rfl|(simp;done)|(simp [*];done)),(by first|rfl|(simp;done)|(simp [*];done)),H',⟨by have:=HK1.out;have:=HK2.out;omega⟩,⟨uK BK642⟩,⟨(vB HB)⟩⟩
      ·
       rw [if_neg c11] at H;have c11b0:=decide_eq_false c11;clear c11;obtain rfl:=Option.some.inj H;go_wp2
       go_ret
       exact ⟨by first|rfl|(simp [Qe,Qf] <;>rfl)|(simp only [←hji4,←hji10];first|rfl|(simp [Qe,Qf] <;>rfl))|(simp [*,Qe,Qf] <;>rfl),(vB HB)⟩
def Qdd.f (k:Nat) (l0_0:List Int) (a1:Int) (a2:Int):Option (Int × Bool):=(Qcr.f k l0_0 a1).bind fun t646=>(if t646=true then ((Qcd.f a2 (-1000) 1000).bind fun t647=>(if t647=true then ((Qbq.f k l0_0 a1 a2).bind fun t648=>(some (t648,true))) else (some (0,false)))) else (some (0,false)))
theorem Qdd.mono: ∀ a0 a1 a2 k,LeO (Qdd.f k a0 a1 a2) (Qdd.f (k+1) a0 a1 a2):=by
 intro a0 a1 a2 k;unfold Qdd.f
 repeat' (with_reducible first|apply Qbq.mono|apply Qcr.mono|exact LeO.refl _|exact LeO.none _|refine LeO.ite ?_ ?_|refine LeO.bind ?_ (fun _=> ?_))
set_option maxHeartbeats 8000000 in
set_option maxRecDepth 100000 in
theorem Qdd.calls (k:Nat) (A0_0:Option Addr) (c0_0:Nat) (l0_0:List Int) (a1:Int) (a2:Int) (r1:Int) (r2:Bool) (w:World) (hr0_0:Kd.C (Kd.int .i64) w A0_0 l0_0.length l0_0) (hc0_0:l0_0.length≤c0_0) (h:Qdd.f k l0_0 a1 a2=some (r1,r2)):
 Calls Try.prog 106 #[.agg #[.slice A0_0 l0_0.length c0_0], .int .i64 a1, .int .i64 a2] w fun e w'=>e= .returned (.tuple #[.int .i64 r1, .bool r2])∧Below w.heap.size w w':=by
 have hu26:=Try.underlying26;have HR0_0:=Zk hr0_0;have HC0_0:=Zk hc0_0;clear hr0_0 hc0_0;have HB:=Zk (Below.refl w.heap.size w);have H:((Qcr.f k l0_0 a1).bind fun t646=>(if t646=true then ((Qcd.f a2 (-1000) 1000).bind fun t647=>(if t647=true then ((Qbq.f k l0_0 a1 a2).bind fun t648=>(some (t648,true))) else (some (0,false)))) else (some (0,false))))=some (r1,r2):=h;clear h;obtain ⟨t646,A4,H⟩:=bs H;(try dsimp only at H)
 by_cases c5:t646=true
 ·
  subst c5;rw [if_pos rfl] at H;obtain ⟨t647,A6,H⟩:=bs H;(try dsimp only at H)
  by_cases c7:t647=true
  ·
   subst c7;rw [if_pos rfl] at H;obtain ⟨t648,A8,H⟩:=bs H;(try dsimp only at H)
   simp only [Option.some.injEq,Prod.mk.injEq] at H;obtain ⟨rfl,rfl⟩:=H;go_enter Try.func106,Try.ntmps106;go_wp2_with (first|(refine bE (N:=3) (cs:= #[.slice A0_0 l0_0.length c0_0]) (t:=26) ?_;intro gb645 hg w9 hbox hb;have BK645:=Zk (hbox);have GW645:=Zk ((by rw [hg];exact (Qh (uB HB)):w.heap.size≤gb645));have GE645:=GW645;replace HB:=Zk (Qc (uB HB) hb);clear hb hbox hg;have hcz10_0:=bC BK645;have hfz10_0:=Qg BK645.out 0)|(refine gA (some 10) Try.func103 #[.agg #[.slice A0_0 l0_0.length c0_0], .int .i64 a1] ?_;(with_reducible refine (Qcr.calls k _ _ l0_0 a1 true _ (uD HR0_0 HB) HC0_0.out A4.out).mono ?_);rintro e w11 ⟨rfl,hb⟩;refine ⟨_,rfl,?_⟩;replace BK645:=Zk (Qd (uK BK645) hb);replace HB:=Zk (Qc (vB HB) hb);(try clear hb))|(go_at_call 81;(with_reducible refine (Qcd.calls a2 (-1000) 1000 true _ A6.out).mono ?_);rintro e w' ⟨rfl,⟨nd,rfl⟩⟩;have hcz12_0:=bC BK645;have hfz12_0:=Qg BK645.out 0)|(refine gA (some 20) Try.func129 #[.agg #[.slice A0_0 l0_0.length c0_0], .int .i64 a1, .int .i64 a2] ?_;(with_reducible refine (Qbq.calls k _ _ l0_0 a1 a2 t648 _ ?side1 HC0_0.out A8.out).mono ?_);(case side1=>repeat (first|exact (Kd.C_below HR0_0.out (vB HB))|(with_reducible refine Kd.C_alloc ?_ _)|(with_reducible refine Kd.C_drewN ?_ _)|(with_reducible refine Kd.C_drew ?_)));rintro e w13 ⟨rfl,hb⟩;refine ⟨_,rfl,?_⟩;replace BK645:=Zk (Qd (uK BK645) hb);replace HB:=Zk (Qc (vB HB) hb);(try clear hb)))
   go_ret2
   exact ⟨by first|rfl|(simp [Qe,Qf] <;>rfl)|(simp [*,Qe,Qf] <;>rfl),(vB HB)⟩
  ·
   replace c7:=Bool.eq_false_iff.mpr c7;subst c7;rw [if_neg (show ¬ (false=true) by decide)] at H;simp only [Option.some.injEq,Prod.mk.injEq] at H;obtain ⟨rfl,rfl⟩:=H;go_enter Try.func106,Try.ntmps106;go_wp2_with (first|(refine bE (N:=3) (cs:= #[.slice A0_0 l0_0.length c0_0]) (t:=26) ?_;intro gb645 hg w14 hbox hb;have BK645:=Zk (hbox);have GW645:=Zk ((by rw [hg];exact (Qh (uB HB)):w.heap.size≤gb645));have GE645:=GW645;replace HB:=Zk (Qc (uB HB) hb);clear hb hbox hg;have hcz15_0:=bC BK645;have hfz15_0:=Qg BK645.out 0)|(refine gA (some 10) Try.func103 #[.agg #[.slice A0_0 l0_0.length c0_0], .int .i64 a1] ?_;(with_reducible refine (Qcr.calls k _ _ l0_0 a1 true _ (uD HR0_0 HB) HC0_0.out A4.out).mono ?_);rintro e w16 ⟨rfl,hb⟩;refine ⟨_,rfl,?_⟩;replace BK645:=Zk (Qd (uK BK645) hb);replace HB:=Zk (Qc (vB HB) hb);(try clear hb))|(go_at_call 81;(with_reducible refine (Qcd.calls a2 (-1000) 1000 false _ A6.out).mono ?_);rintro e w' ⟨rfl,⟨nd,rfl⟩⟩))
   go_ret2
   exact ⟨by first|rfl|(simp [Qe,Qf] <;>rfl)|(simp [*,Qe,Qf] <;>rfl),(vB HB)⟩
 ·
  replace c5:=Bool.eq_false_iff.mpr c5;subst c5;rw [if_neg (show ¬ (false=true) by decide)] at H;simp only [Option.some.injEq,Prod.mk.injEq] at H;obtain ⟨rfl,rfl⟩:=H;go_enter Try.func106,Try.ntmps106;go_wp2_with (first|(refine bE (N:=3) (cs:= #[.slice A0_0 l0_0.length c0_0]) (t:=26) ?_;intro gb645 hg w17 hbox hb;have BK645:=Zk (hbox);have GW645:=Zk ((by rw [hg];exact (Qh (uB HB)):w.heap.size≤gb645));have GE645:=GW645;replace HB:=Zk (Qc (uB HB) hb);clear hb hbox hg;have hcz18_0:=bC BK645;have hfz18_0:=Qg BK645.out 0)|(refine gA (some 10) Try.func103 #[.agg #[.slice A0_0 l0_0.length c0_0], .int .i64 a1] ?_;(with_reducible refine (Qcr.calls k _ _ l0_0 a1 false _ (uD HR0_0 HB) HC0_0.out A4.out).mono ?_);rintro e w19 ⟨rfl,hb⟩;refine ⟨_,rfl,?_⟩;replace BK645:=Zk (Qd (uK BK645) hb);replace HB:=Zk (Qc (vB HB) hb);(try clear hb)))
  go_ret2
  exact ⟨by first|rfl|(simp [Qe,Qf] <;>rfl)|(simp [*,Qe,Qf] <;>rfl),(vB HB)⟩
def Qdr.f (k:Nat) (l0_0:List Int) (a1:Int):Option (Int × Bool):=(Qdd.f k l0_0 a1 1).bind fun bt650=>(some (bt650.1,bt650.2))
theorem Qdr.mono: ∀ a0 a1 k,LeO (Qdr.f k a0 a1) (Qdr.f (k+1) a0 a1):=by
 intro a0 a1 k;unfold Qdr.f
 repeat' (with_reducible first|apply Qdd.mono|exact LeO.refl _|exact LeO.none _|refine LeO.ite ?_ ?_|refine LeO.bind ?_ (fun _=> ?_))
set_option maxHeartbeats 8000000 in
set_option maxRecDepth 100000 in
theorem Qdr.calls (k:Nat) (A0_0:Option Addr) (c0_0:Nat) (l0_0:List Int) (a1:Int) (r1:Int) (r2:Bool) (w:World) (hr0_0:Kd.C (Kd.int .i64) w A0_0 l0_0.length l0_0) (hc0_0:l0_0.length≤c0_0) (h:Qdr.f k l0_0 a1=some (r1,r2)):
 Calls Try.prog 48 #[.agg #[.slice A0_0 l0_0.length c0_0], .int .i64 a1] w fun e w'=>e= .returned (.tuple #[.int .i64 r1, .bool r2])∧Below w.heap.size w w':=by
 have hu26:=Try.underlying26;have HR0_0:=Zk hr0_0;have HC0_0:=Zk hc0_0;clear hr0_0 hc0_0;have HB:=Zk (Below.refl w.heap.size w);have H:((Qdd.f k l0_0 a1 1).bind fun bt650=>(some (bt650.1,bt650.2)))=some (r1,r2):=h;clear h;obtain ⟨⟨t650,t651⟩,A3,H⟩:=bs H;(try dsimp only at H)
 simp only [Option.some.injEq,Prod.mk.injEq] at H;obtain ⟨rfl,rfl⟩:=H;go_enter Try.func48,Try.ntmps48;go_wp2_with (first|(refine bE (N:=2) (cs:= #[.slice A0_0 l0_0.length c0_0]) (t:=26) ?_;intro gb649 hg w4 hbox hb;have BK649:=Zk (hbox);have GW649:=Zk ((by rw [hg];exact (Qh (uB HB)):w.heap.size≤gb649));have GE649:=GW649;replace HB:=Zk (Qc (uB HB) hb);clear hb hbox hg;have hcz5_0:=bC BK649;have hfz5_0:=Qg BK649.out 0)|(refine gA (some 8) Try.func106 #[.agg #[.slice A0_0 l0_0.length c0_0], .int .i64 a1, .int .i64 1] ?_;(with_reducible refine (Qdd.calls k _ _ l0_0 a1 1 t650 t651 _ (uD HR0_0 HB) HC0_0.out A3.out).mono ?_);rintro e w6 ⟨rfl,hb⟩;refine ⟨_,rfl,?_⟩;replace BK649:=Zk (Qd (uK BK649) hb);replace HB:=Zk (Qc (vB HB) hb);(try clear hb)))
 go_ret2
 exact ⟨by first|rfl|(simp [Qe,Qf] <;>rfl)|(simp [*,Qe,Qf] <;>rfl),(vB HB)⟩
def Qda.f (k:Nat) (l0:List Int):Option (List Int × Int):=(Qbh.f l0 0 0 (([3,4,5,7] :List Int))).bind fun bt657=>((Q0.f k l0 bt657.2.1 bt657.2.2 bt657.1).bind fun bt660=>((Qbh.f l0 bt660.2.1 bt660.2.2 (([0,1,2,2,3,5,(-1)] :List Int))).bind fun bt668=>(some (bt660.1,bt668.1))))
theorem Qda.mono: ∀ a0 k,LeO (Qda.f k a0) (Qda.f (k+1) a0):=by
 intro a0 k;unfold Qda.f
 repeat' (with_reducible first|apply Q0.mono|exact LeO.refl _|exact LeO.none _|refine LeO.ite ?_ ?_|refine LeO.bind ?_ (fun _=> ?_))
set_option maxHeartbeats 8000000 in
set_option maxRecDepth 100000 in
theorem Qda.calls (k:Nat) (A0:Option Addr) (c0:Nat) (l0:List Int) (r1:List Int) (r2:Int) (w:World) (hr0:Kd.C (Kd.int .u8) w A0 l0.length l0) (hc0:l0.length≤c0) (h:Qda.f k l0=some (r1,r2)):
 Calls Try.prog 49 #[.slice A0 l0.length c0] w fun e w'=> ∃ v0_:Value,e= .returned (.tuple #[.agg #[v0_], .int .i64 r2])∧Kd.R (Kd.int .i64) 3 w' w.heap.size (fun _=>True) v0_ r1∧Below w.heap.size w w':=by
 have hu26:=Try.underlying26;have hu67:=Try.underlying67;have HR0:=Zk hr0;have HC0:=Zk hc0;clear hr0 hc0;have HB:=Zk (Below.refl w.heap.size w);have H:((Qbh.f l0 0 0 (([3,4,5,7] :List Int))).bind fun bt657=>((Q0.f k l0 bt657.2.1 bt657.2.2 bt657.1).bind fun bt660=>((Qbh.f l0 bt660.2.1 bt660.2.2 (([0,1,2,2,3,5,(-1)] :List Int))).bind fun bt668=>(some (bt660.1,bt668.1)))))=some (r1,r2):=h;clear h;obtain ⟨y654,hy654⟩: ∃ y_:List Int,y_=(([3,4,5,7] :List Int)):=⟨_,rfl⟩
 replace H:((Qbh.f l0 0 0 y654).bind fun bt657=>((Q0.f k l0 bt657.2.1 bt657.2.2 bt657.1).bind fun bt660=>((Qbh.f l0 bt660.2.1 bt660.2.2 (([0,1,2,2,3,5,(-1)] :List Int))).bind fun bt668=>(some (bt660.1,bt668.1)))))=some (r1,r2):=by first|(rw [hy654];with_reducible exact H)|(have H2_:=(Option.bind_some _ _).symm.trans H;rw [hy654];with_reducible exact H2_)|(have H2_:=(Option.bind_some _ _).symm.trans H;with_reducible exact H2_)|with_reducible exact H|(rw [hy654];exact H)|exact H
 have Ny654:=Zk hy654;clear hy654;obtain ⟨⟨t657,t658,t659⟩,A2,H⟩:=bs H;(try dsimp only at H)
 obtain ⟨⟨t660,t663,t664⟩,A3,H⟩:=bs H;(try dsimp only at H)
 obtain ⟨y665,hy665⟩: ∃ y_:List Int,y_=(([0,1,2,2,3,5,(-1)] :List Int)):=⟨_,rfl⟩
 replace H:((Qbh.f l0 t663 t664 y665).bind fun bt668=>(some (t660,bt668.1)))=some (r1,r2):=by first|(rw [hy665];with_reducible exact H)|(have H2_:=(Option.bind_some _ _).symm.trans H;rw [hy665];with_reducible exact H2_)|(have H2_:=(Option.bind_some _ _).symm.trans H;with_reducible exact H2_)|with_reducible exact H|(rw [hy665];exact H)|exact H
 have Ny665:=Zk hy665;clear hy665;obtain ⟨⟨t668,t669,t670⟩,A4,H⟩:=bs H;(try dsimp only at H)
 simp only [Option.some.injEq,Prod.mk.injEq] at H;obtain ⟨rfl,rfl⟩:=H;go_enter Try.func49,Try.ntmps49;go_wp2_with (first|(refine bE (N:=2) (cs:= #[.slice none 0 0]) (t:=26) ?_;intro gb652 hg w5 hbox hb;have BK652:=Zk (hbox);have GW652:=Zk ((by rw [hg];exact (Qh (uB HB)):w.heap.size≤gb652));have GE652:=GW652;replace HB:=Zk (Qc (uB HB) hb);clear hb hbox hg)|(refine bE (N:=7) (cs:= #[.slice A0 l0.length c0, .int .i64 0, .int .u64 0]) (t:=67) ?_;intro gb653 hg w6 hbox hb;have HI653:=Zk ((⟨_,_,hbox,(by rw [hg];exact (Qh (vB HB)):w.heap.size≤gb653),HR0.out⟩:Qa w _ gb653 l0 0 0));have GW653:=Zk ((by rw [hg];exact (Qh (vB HB)):w.heap.size≤gb653));have GE653:=GW653;replace HB:=Zk (Qc (vB HB) hb);have NB652_653:=Zk ((by rw [hg];exact Nat.ne_of_lt (Qb9 (uK BK652)):gb652≠gb653));have NB653_652:=Zk ((by rw [hg];exact Nat.ne_of_gt (Qb9 (uK BK652)):gb653≠gb652));replace BK652:=Zk (Qd (uK BK652) hb);clear hb hbox hg)|((with_reducible refine Qb2 (N:=10) rfl ?_);refine Kd.R_lit (Kd.int .i64) _ 3 ?hg (N:=10) ?hd (xs:=([3,4,5,7] :List Int)) (inner:= [.int .i64 3, .int .i64 4, .int .i64 5, .int .i64 7]) (ok:=fun _=>True) (okp:=fun _=>True) ?hr ?hp (fun _ hk=>hk) trivial (Below.refl _ _) (Nat.le_refl _) (by simp) ?_;(case hd=>rfl);(case hg=>rfl);(case hr=>first|(go_simp;done)|(go_simp;rfl));(case hp=>exact (Reps.one (show Kd.M (Kd.int .i64) _ _ _ 3 [.int .i64 3] from rfl) (Reps.one (show Kd.M (Kd.int .i64) _ _ _ 4 [.int .i64 4] from rfl) (Reps.one (show Kd.M (Kd.int .i64) _ _ _ 5 [.int .i64 5] from rfl) (Reps.one (show Kd.M (Kd.int .i64) _ _ _ 7 [.int .i64 7] from rfl) (Reps.none _ _))))));intro v655 w7 ho8 hb hg_ hnew_;clear hg_ hnew_;(first|rw [←Ny654.out] at ho8|(simp only [Int.reduceToNat] at ho8;rw [←Ny654.out] at ho8));have HO656:=Zk (Kd.R_lower ho8 (Qh (Qa.vB HB)));replace BK652:=Zk (Qd (uK BK652) hb);replace HI653:=Zk (Qa.below (Qa.u HI653) hb);replace HB:=Zk (Qc (Qa.vB HB) hb);clear hb ho8;obtain ⟨Ao9,co9,eo9⟩:=Kd.R_slice HO656.out;subst eo9)|(refine gA (some 11) Try.func94 #[.pointer (some ⟨gb653,0,none⟩), .slice Ao9 y654.length co9] ?_;(with_reducible refine (Qbh.calls gb653 l0 0 0 _ _ y654 t657 t658 t659 w _ (Qa.u HI653) (Qa.vB HB) (uE HO656) ?side4 ?side5 A2.out).mono ?_);(case side4=>exact (Kd.R_reads' HO656.out).2.1);(case side5=>exact Qeh (Qa.own_ne HI653.out HO656.out (by decide)));rintro e w10 ⟨rfl,hi,hb,hk⟩;refine ⟨_,rfl,?_⟩;replace BK652:=Zk (Qj.blk hk (g':=gb652) (o:= .cells #[.slice none 0 0] 26 (0,0)) (uK BK652) NB652_653.out (by simp));replace HO656:=Zk (Kd.R_mono (Kd.R_keep (Qa.apart (show Qa w _ gb653 l0 0 0 from Qa.u HI653) (uR HO656) (by decide)) hk (fun _ h=>h.2)) (fun _ h=>h.1));replace HB:=Zk (hb);replace HI653:=Zk (hi);(try clear hb hk hi))|(refine gA (some 12) Try.func107 #[.pointer (some ⟨gb653,0,none⟩), .int .i64 t657] ?_;(with_reducible refine (Q0.calls k gb653 l0 t658 t659 t657 t660 t663 t664 w _ (Qa.u HI653) (Qa.vB HB) A3.out).mono ?_);rintro e w11 ⟨v661,rfl,ho0,hi,hb,hk⟩;refine ⟨_,rfl,?_⟩;replace BK652:=Zk (Qj.blk hk (g':=gb652) (o:= .cells #[.slice none 0 0] 26 (0,0)) (uK BK652) NB652_653.out (by simp));have HO662:=Zk (Kd.R_lower (Kd.R_new' ho0 (Kd.R_lt (uR HO656))) (Qh (Qa.vB HB)));replace HO656:=Zk (Kd.R_mono (Kd.R_told (Kd.R_oldK (Qa.apart (show Qa w _ gb653 l0 t658 t659 from Qa.u HI653) (uR HO656) (by decide)) hk) (Kd.R_base ho0)) (fun _ h_=>h_.1));replace HB:=Zk (hb);replace HI653:=Zk (hi);(try clear hb hk hi ho0))|((with_reducible refine Qb2 (N:=14) rfl ?_);refine Kd.R_lit (Kd.int .i64) _ 3 ?hg (N:=14) ?hd (xs:=([0,1,2,2,3,5,(-1)] :List Int)) (inner:= [.int .i64 0, .int .i64 1, .int .i64 2, .int .i64 2, .int .i64 3, .int .i64 5, .int .i64 (-1)]) (ok:=fun _=>True) (okp:=fun _=>True) ?hr ?hp (fun _ hk=>hk) trivial (Below.refl _ _) (Nat.le_refl _) (by simp) ?_;(case hd=>rfl);(case hg=>rfl);(case hr=>first|(go_simp;done)|(go_simp;rfl));(case hp=>exact (Reps.one (show Kd.M (Kd.int .i64) _ _ _ 0 [.int .i64 0] from rfl) (Reps.one (show Kd.M (Kd.int .i64) _ _ _ 1 [.int .i64 1] from rfl) (Reps.one (show Kd.M (Kd.int .i64) _ _ _ 2 [.int .i64 2] from rfl) (Reps.one (show Kd.M (Kd.int .i64) _ _ _ 2 [.int .i64 2] from rfl) (Reps.one (show Kd.M (Kd.int .i64) _ _ _ 3 [.int .i64 3] from rfl) (Reps.one (show Kd.M (Kd.int .i64) _ _ _ 5 [.int .i64 5] from rfl) (Reps.one (show Kd.M (Kd.int .i64) _ _ _ (-1) [.int .i64 (-1)] from rfl) (Reps.none _ _)))))))));intro v666 w12 ho13 hb hg_ hnew_;clear hg_ hnew_;(first|rw [←Ny665.out] at ho13|(simp only [Int.reduceToNat] at ho13;rw [←Ny665.out] at ho13));have HO667:=Zk (Kd.R_lower (Kd.R_new' (Kd.R_new' ho13 (Kd.R_lt (uR HO656))) (Kd.R_lt (uR HO662))) (Qh (Qa.vB HB)));replace HO656:=Zk (Kd.R_elder' (uR HO656) (Kd.R_base ho13) hb);replace HO662:=Zk (Kd.R_elder' (uR HO662) (Kd.R_base ho13) hb);replace BK652:=Zk (Qd (uK BK652) hb);replace HI653:=Zk (Qa.below (Qa.u HI653) hb);replace HB:=Zk (Qc (Qa.vB HB) hb);clear hb ho13;obtain ⟨Ao14,co14,eo14⟩:=Kd.R_slice HO667.out;subst eo14)|(refine gA (some 15) Try.func94 #[.pointer (some ⟨gb653,0,none⟩), .slice Ao14 y665.length co14] ?_;(with_reducible refine (Qbh.calls gb653 l0 t663 t664 _ _ y665 t668 t669 t670 w _ (Qa.u HI653) (Qa.vB HB) (uE HO667) ?side4 ?side5 A4.out).mono ?_);(case side4=>exact (Kd.R_reads' HO667.out).2.1);(case side5=>exact Qeh (Qa.own_ne HI653.out HO667.out (by decide)));rintro e w15 ⟨rfl,hi,hb,hk⟩;refine ⟨_,rfl,?_⟩;replace BK652:=Zk (Qj.blk hk (g':=gb652) (o:= .cells #[.slice none 0 0] 26 (0,0)) (uK BK652) NB652_653.out (by simp));replace HO656:=Zk (Kd.R_mono (Kd.R_keep (Qa.apart (show Qa w _ gb653 l0 t663 t664 from Qa.u HI653) (uR HO656) (by decide)) hk (fun _ h=>h.2)) (fun _ h=>h.1));replace HO662:=Zk (Kd.R_mono (Kd.R_keep (Qa.apart (show Qa w _ gb653 l0 t663 t664 from Qa.u HI653) (uR HO662) (by decide)) hk (fun _ h=>h.2)) (fun _ h=>h.1));replace HO667:=Zk (Kd.R_mono (Kd.R_keep (Qa.apart (show Qa w _ gb653 l0 t663 t664 from Qa.u HI653) (uR HO667) (by decide)) hk (fun _ h=>h.2)) (fun _ h=>h.1));replace HB:=Zk (hb);replace HI653:=Zk (hi);(try clear hb hk hi);obtain ⟨Ao16,co16,eo16⟩:=Kd.R_slice HO662.out;subst eo16;have hnb17:=NB652_653.out;have hnc17:=NB653_652.out;have hcz18_0:=bC BK652;have hfz18_0:=Qg BK652.out 0))
 refine bodyPost_ret (Qee rfl _ _ gb652 26 #[.slice Ao16 t660.length co16] (0,0) _ rfl bP Try.underlying26 rfl (by kernel_rfl)) rfl ?_;exact ⟨_,by first|rfl|(simp [Qe,Qf] <;>rfl)|(simp [*,Qe,Qf] <;>rfl),by (with_reducible repeat (first|apply Kd.R_alloc|apply Kd.R_drewN|apply Kd.R_drew));exact Kd.R_mono (Kd.R_far (p:=⟨gb652,0,none⟩) (Kd.R_types HO662.out BK652.out (by decide)) (fun _ hk=>hk.2) (.slice Ao16 t660.length co16)) (fun _ hk=>trivial),(Qa.vB HB)⟩
end Go.Proofs.Ytkgngggppcmpfaa.L
end
section
namespace Go.Proofs.Ytkgngggppcmpfaa.X
open Go.RowKit Go.Proofs.YtkgngggppcmpfaaW.PrintWords Go.Proofs.YtkgngggppcmpfaaW.PrintLast Go.Proofs.YtkgngggppcmpfaaW.PrintMore
set_option linter.unusedVariables false
theorem Qng: ∀ (l:List Bool) (i:Nat),l.getD i true=false→(l.set i true).count false+1=l.count false
 | [], i, h => by simp at h
 | b :: l, 0, h => by
  have : b = false := by simpa using h
  subst this
  simp
 | b :: l, i + 1, h => by
  have ih := Qng l i (by simpa using h)
  rw [List.set_cons_succ, List.count_cons, List.count_cons]
  omega
section
variable {P : Program} {ops : Array Oper} {Q : Exit → Act → World → Prop} {md : Region.Mode}
theorem Qnf {l:Array Bool} {i:Nat} (h:i ∈ Region.ready md ops l):i<ops.size∧l.toList.getD i true=false:=by
 rw [Qg6] at h
 unfold Qft at h
 rw [List.mem_filter, List.mem_range, Qfu, Qkt, gd, Bool.and_eq_true, Bool.not_eq_true'] at h
 exact ⟨h.1, h.2.1⟩
theorem Qn0 (Inv:Array Bool→Act→World→Prop)
  (step : ∀ l a w i, Inv l a w → i ∈ Region.ready md ops l → wpOp P ops Q i (fun a' w' => Inv (l.setIfInBounds i true) a' w') a w)
  (fin : ∀ l a w, Inv l a w → Region.ready md ops l = [] → Q .normal a w) : ∀ (fuel : Nat) (l : Array Bool) (a : Act) (w : World), l.toList.count false ≤ fuel → Inv l a w → wpAny P md ops Q fuel l a w
 | 0, l, a, w, h, hi => by
  have hr : Region.ready md ops l = [] := by
   cases h1 : Region.ready md ops l with
   | nil => rfl
   | cons i r =>
    have h2 := Qnf (md := md) (ops := ops) (l := l) (i := i) (by rw [h1]; exact List.mem_cons_self)
    have h3 := Qng l.toList i h2.2
    omega
  exact ⟨hr, fin l a w hi hr⟩
 | fuel + 1, l, a, w, h, hi => by
  refine ⟨fun hr => fin l a w hi hr, fun i hm => wpOp_mono (fun a' w' h2 => ?_) (step l a w i hi hm)⟩
  refine Qn0 Inv step fin fuel _ a' w' ?_ h2
  have h3 := Qng l.toList i (Qnf hm).2
  rw [Array.toList_setIfInBounds]
  omega
theorem reg_any {id n:Nat} {a:Act} {w:World} (Inv:Array Bool→Act→World→Prop) (hm:P.follows .mixedOrders=true) (hn:ops.size=n) (h0:Inv (Array.replicate n false) a w.drew)
  (step : ∀ l a w i, Inv l a w → i ∈ Region.ready .any ops l → wpOp P ops Q i (fun a' w' => Inv (l.setIfInBounds i true) a' w') a w)
  (fin : ∀ l a w, Inv l a w → Region.ready .any ops l = [] → Q .normal a w) : (Code.region id ops true).wp P Q a w := by
 subst hn
 exact wp_region_any hm (Qn0 Inv step fin _ _ _ _ (Nat.le_trans List.count_le_length (by simp)) h0)
end
end Go.Proofs.Ytkgngggppcmpfaa.X
end
section
namespace Go.Proofs.Ytkgngggppcmpfaa.L
open Go.RowKit Go.Proofs.YtkgngggppcmpfaaW.PrintWords Go.Proofs.YtkgngggppcmpfaaW.PrintLast Go.Proofs.YtkgngggppcmpfaaW.PrintMore
attribute [local go_sem] Qbd Qbf Qbn Qbo Q3 Q4 Qbe Qbg
set_option linter.unusedVariables false
set_option linter.unusedSimpArgs false
def Qi.least (F:List Int):List Int→Int→Option Int
 | [],a=>some a
 |j::js,a=>if 0≤j∧j<(F.length:Int) then Qi.least F js (mx a (rd F j)) else none
def Qi.loop (put:List Int→List (List Int)→Option (List Int × List (List Int))) (i m:Int):Nat→Int→List Int→List (List Int)→Option (List Int × List (List Int))
 |0,kk,F,O=>if kk≤m then none else some (F,O)
 |n+1,kk,F,O=>if kk≤m then (if 0≤i∧i<(F.length:Int) then (put (F.set i.toNat kk) O).bind fun t=>Qi.loop put i m n (wrap64 (kk+1)) t.1 t.2 else none) else some (F,O)
def Qi.put (k:Nat) (l0:List Int) (m:Int):Nat→Int→List Int→List (List Int)→Option (List Int × List (List Int))
 |0,i,F,O=>if i=(l0.length:Int) then (if F.length<17592186044416∧O.length<5864062014805 then some (F,O++ [F]) else none) else none
 |d+1,i,F,O=>if i=(l0.length:Int) then (if F.length<17592186044416∧O.length<5864062014805 then some (F,O++ [F]) else none) else
  if 0≤i∧i<(l0.length:Int) then (Qbr.f k (rd l0 i)).bind fun js=>if js.length≤9223372036854775806 then (Qi.least F js 0).bind fun lo=>Qi.loop (Qi.put k l0 m d (wrap64 (i+1))) i m (m+1 - lo).toNat lo F O else none else none
def Qi.f (k:Nat) (l0_0:List Int) (a1:Int):Option (List (List Int)):=
 if l0_0.length≤35184372088832 then (Qi.put k l0_0 a1 l0_0.length 0 (List.replicate l0_0.length 0) []).map (·.2) else none
theorem Qi.loop_mono {p q:List Int→List (List Int)→Option (List Int × List (List Int))} (h: ∀ F O,LeO (p F O) (q F O)) (i m:Int): ∀ n kk F O,LeO (Qi.loop p i m n kk F O) (Qi.loop q i m n kk F O)
 |0,_,_,_=>LeO.refl _
 |n+1,kk,F,O=>by
  rw [Qi.loop,Qi.loop];exact LeO.ite (LeO.ite (LeO.bind (h _ _) fun t=>Qi.loop_mono h i m n _ _ _) (LeO.refl _)) (LeO.refl _)
theorem Qi.put_mono (k:Nat) (l0:List Int) (m:Int): ∀ d i F O,LeO (Qi.put k l0 m d i F O) (Qi.put (k+1) l0 m d i F O)
 |0,_,_,_=>LeO.refl _
 |d+1,i,F,O=>by
  rw [Qi.put,Qi.put];exact LeO.ite (LeO.refl _) (LeO.ite (LeO.bind (Qbr.mono _ _) fun js=>LeO.ite (LeO.bind (LeO.refl _) fun lo=>Qi.loop_mono (fun F O=>Qi.put_mono k l0 m d _ F O) _ _ _ _ _ _) (LeO.refl _)) (LeO.refl _))
theorem Qi.mono: ∀ a0 a1 k,LeO (Qi.f k a0 a1) (Qi.f (k+1) a0 a1):=by
 intro l0 a1 k;unfold Qi.f;refine LeO.ite (fun r h=> ?_) (LeO.refl _);obtain ⟨v,hv,e⟩:=Option.map_eq_some_iff.mp h;exact Option.map_eq_some_iff.mpr ⟨v,Qi.put_mono _ _ _ _ _ _ _ _ hv,e⟩
def Qi.okO (Bp Bo Bf Bm Bq:Nat) (vF:Value) (k:Nat):Prop:=k≠Bp∧k≠Bo∧k≠Bf∧k≠Bm∧k≠Bq∧some k≠vF.ownBlock
structure Qi.Inv (w0 W : World) (A0 : Option Addr) (n c0 : Nat) (m : Int) (Bp Bo Bf Bm Bq : Nat) (vF : Value) (F : List Int) (O : List (List Int)) (vO : Value) : Prop where
 below:Below w0.heap.size w0 W
 bp:W.heap[Bp]? =some (.cells #[.slice A0 n c0] 26 (0,0))
 bo:W.heap[Bo]? =some (.cells #[vO] 29 (0,0))
 bf:W.heap[Bf]? =some (.cells #[vF] 24 (0,0))
 bm:W.heap[Bm]? =some (.cells #[.int .i64 m] 3 (0,0))
 bq:W.heap[Bq]? =some (.cells #[.func (.func 131) #[] #[.pointer (some ⟨Bp,0,none⟩), .pointer (some ⟨Bo,0,none⟩), .pointer (some ⟨Bf,0,none⟩), .pointer (some ⟨Bm,0,none⟩), .pointer (some ⟨Bq,0,none⟩)]] 107 (0,0))
 so:Kd.S (Kd.slice 3 (Kd.int .i64)) 24 W w0.heap.size (Qi.okO Bp Bo Bf Bm Bq vF) vO O
 rf:Kd.R (Kd.int .i64) 3 W w0.heap.size (fun k=>some k=vF.ownBlock) vF F
 nm:some Bm≠vF.ownBlock
 go:w0.heap.size≤Bo
open Go.Proofs.Ytkgngggppcmpfaa.X in
theorem Qi.Inv.step {w0 W W2:World} {A0:Option Addr} {n c0:Nat} {m:Int} {Bp Bo Bf Bm Bq:Nat} {vF:Value} {F:List Int} {O:List (List Int)} {vO:Value} (h:Qi.Inv w0 W A0 n c0 m Bp Bo Bf Bm Bq vF F O vO) (hb:Below W.heap.size W W2):Qi.Inv w0 W2 A0 n c0 m Bp Bo Bf Bm Bq vF F O vO:=
 ⟨below_to h.below hb,Qd h.bp hb,Qd h.bo hb,Qd h.bf hb,Qd h.bm hb,Qd h.bq hb,Kd.S_below h.so hb,Kd.R_below h.rf hb,h.nm,h.go⟩
open Go.Proofs.Ytkgngggppcmpfaa.X in
theorem Qi.Inv.put {w0 W:World} {A0:Option Addr} {n c0 gf nf cf:Nat} {m:Int} {Bp Bo Bf Bm Bq:Nat} {F:List Int} {O:List (List Int)} {vO:Value} (h:Qi.Inv w0 W A0 n c0 m Bp Bo Bf Bm Bq (.slice (some ⟨gf,0,none⟩) nf cf) F O vO) (i kk:Int):
 Qi.Inv w0 (W.setCell ⟨gf,i.toNat,none⟩ (.int .i64 kk)) A0 n c0 m Bp Bo Bf Bm Bq (.slice (some ⟨gf,0,none⟩) nf cf) (F.set i.toNat kk) O vO:=by
 have ne: ∀ {B:Nat},some B≠(Value.slice (some ⟨gf,0,none⟩) nf cf).ownBlock→B≠gf:=fun h e=>h (by rw [e];rfl)
 refine ⟨Q1 h.below (Kd.R_base h.rf gf rfl),?_,?_,?_,?_,?_,?_,?_,h.nm,h.go⟩
 ·
  exact Qdf h.bp (ne (Kd.R_ne h.rf h.bp (by decide))) _
 ·
  exact Qdf h.bo (ne (Kd.R_ne h.rf h.bo (by decide))) _
 ·
  exact Qdf h.bf (ne (Kd.R_ne h.rf h.bf (by decide))) _
 ·
  exact Qdf h.bm (ne h.nm) _
 ·
  exact Qdf h.bq (ne (Kd.R_ne h.rf h.bq (by decide))) _
 ·
  exact Kd.S_far h.so (fun k hk=>ne hk.2.2.2.2.2) _
 ·
  exact (Kd.R_putg h.rf i kk).1
open Go.Proofs.Ytkgngggppcmpfaa.X in
theorem Qi.Inv.push {w0 w1 w2 w3:World} {A0:Option Addr} {n c0:Nat} {m:Int} {Bp Bo Bf Bm Bq:Nat} {vF:Value} {F:List Int} {O:List (List Int)} {Ao A3:Option Addr} {co c3:Nat} (h:Qi.Inv w0 w1 A0 n c0 m Bp Bo Bf Bm Bq vF F O (.slice Ao O.length co)) (hB:Below w1.heap.size w1 w2)
 (ho:Kd.S (Kd.slice 3 (Kd.int .i64)) 24 w3 w0.heap.size (Qi.okO Bp Bo Bf Bm Bq vF) (.slice A3 (O++ [F]).length c3) (O++ [F])) (hb:Below w0.heap.size w0 w3) (hg:w2.grownBy w3 (Value.slice Ao O.length co).ownBlock):
 Qi.Inv w0 (w3.setCell ⟨Bo,0,none⟩ (.slice A3 (O.length+1) c3)) A0 n c0 m Bp Bo Bf Bm Bq vF F (O++ [F]) (.slice A3 (O.length+1) c3):=by
 have e:(O++ [F]).length=O.length+1:=by simp
 rw [e] at ho;refine ⟨Q1 hb h.go,?_,?_,?_,?_,?_,?_,?_,h.nm,h.go⟩
 ·
  exact Qdf (Qb8 (Qd h.bp hB) hg (Kd.S_away h.so fun _ hk=>hk.1)) (show Bp≠Bo from Qif h.bp h.bo (by decide)) _
 ·
  exact Qfk (Qb8 (Qd h.bo hB) hg (Kd.S_away h.so fun _ hk=>hk.2.1)) 0 _ rfl
 ·
  exact Qdf (Qb8 (Qd h.bf hB) hg (Kd.S_away h.so fun _ hk=>hk.2.2.1)) (show Bf≠Bo from Qif h.bf h.bo (by decide)) _
 ·
  exact Qdf (Qb8 (Qd h.bm hB) hg (Kd.S_away h.so fun _ hk=>hk.2.2.2.1)) (show Bm≠Bo from Qif h.bm h.bo (by decide)) _
 ·
  exact Qdf (Qb8 (Qd h.bq hB) hg (Kd.S_away h.so fun _ hk=>hk.2.2.2.2.1)) (show Bq≠Bo from Qif h.bq h.bo (by decide)) _
 ·
  exact Kd.S_far ho (fun k hk=>hk.2.1) _
 ·
  refine Kd.R_far (Kd.R_grown (Kd.R_below h.rf hB) hg (fun k hk e=>((Kd.S_R h.so).1 k e.symm).2.2.2.2.2 hk)) (fun k hk e=> ?_) _;exact Kd.R_ne h.rf h.bo (by decide) (by rw [←hk,e])
open Go.Proofs.Ytkgngggppcmpfaa.X in
set_option maxHeartbeats 1600000 in
set_option maxRecDepth 100000 in
theorem Qi.lit0 (w0:World) (A0:Option Addr) (c0:Nat) (l0:List Int) (m:Int) (Bp Bo Bf Bm Bq:Nat) (vF:Value) (hr0:Kd.C (Kd.int .i64) w0 A0 l0.length l0) (hc0:l0.length≤c0) (F:List Int) (O:List (List Int)) (vO:Value) (W:World) (hI:Qi.Inv w0 W A0 l0.length c0 m Bp Bo Bf Bm Bq vF F O vO) (hl:F.length<17592186044416∧O.length<5864062014805):
 Calls Try.prog 131 #[.int .i64 (l0.length:Int), .pointer (some ⟨Bp,0,none⟩), .pointer (some ⟨Bo,0,none⟩), .pointer (some ⟨Bf,0,none⟩), .pointer (some ⟨Bm,0,none⟩), .pointer (some ⟨Bq,0,none⟩)] W fun e W'=>e= .returned (.tuple #[])∧ ∃ vO',Qi.Inv w0 W' A0 l0.length c0 m Bp Bo Bf Bm Bq vF F (O++ [F]) vO':=by
 have HR:=Zk hr0;have HC:=Zk hc0;have HL:=Zk hl;have HI:=Zk hI;have zp:=Qb4 hI.bp 0;clear hr0 hc0 hl hI;have hu:=Try.underlying26;go_enter Try.func131,Try.ntmps131;go_wp2_with fail;refine (Qb1.calls _ _ l0 _ _ (Kd.C_below HR.out HI.out.below) HC.out rfl).mono ?_;rintro e w1 ⟨rfl,hb⟩;have HI1:=Zk (HI.out.step hb);clear hb HI zp;obtain ⟨Af,cf,eF⟩:=Kd.R_slice HI1.out.rf;subst eF;obtain ⟨Ao,co,eO⟩:=Kd.S_slice HI1.out.so;subst eO;have zo:=Qb4 HI1.out.bo 0;have zf:=Qb4 HI1.out.bf 0;go_wp2_with fail;have HCL:=Zk (show Qc7.f F=some F by unfold Qc7.f;rw [if_pos HL.out.1]);have FR:=Zk (show ∀ k_,w1.heap.size≤k_→Qi.okO Bp Bo Bf Bm Bq (.slice Af F.length cf) k_∧some k_≠(Value.slice Ao O.length co).ownBlock from fun k_ hk=>⟨⟨by have:=Qb9 HI1.out.bp;omega,by have:=Qb9 HI1.out.bo;omega,by have:=Qb9 HI1.out.bf;omega,by have:=Qb9 HI1.out.bm;omega,by have:=Qb9 HI1.out.bq;omega,fun e=>by have:=Kd.R_lt HI1.out.rf k_ e.symm;omega⟩,fun e=>by have:=Kd.S_lt HI1.out.so k_ e.symm;omega⟩);have NBF:=Zk (show Bf≠Bo from Qif HI1.out.bf HI1.out.bo (by decide))
 go_region_law
  (first
   |(rw [if_pos (by rfl)];go_simp;go_at_call 66;refine (Qc7.calls _ _ F F _ (Kd.C_below (Kd.R_reads' HI1.out.rf).2.2 (Qfd (Below.refl _ _))) (Kd.R_reads' HI1.out.rf).2.1 HCL.out).mono ?_;rintro e w2 ⟨vC,rfl,hC,hb⟩;obtain ⟨Ac,cc,eC⟩:=Kd.R_slice hC;subst eC;have zo2:=Qd7 hb zo;have zf2:=Qd7 hb zf;have zo2a:=Qd7 (Qq (Below.refl w2.heap.size w2) (.cells #[.slice Ac F.length cc] 24)) zo2;have zf2a:=Qd7 (Qq (Below.refl w2.heap.size w2) (.cells #[.slice Ac F.length cc] 24)) zf2;have B12:=Zk (show Below w1.heap.size w1 w2 from below_to (Qfd (Below.refl _ _)) hb);have HCC:=Zk (show Kd.R (Kd.int .i64) 3 w2 w1.heap.size (fun _=>True) (.slice Ac F.length cc) F from hC);dsimp only)
   |(refine Kd.S_append_step (Kd.slice 3 (Kd.int .i64)) (w0:=w0) w0.heap.size (by rfl) (.tmp 15) (.tmp 18) 29 24 (.slice none 0 0) 24 (by rfl) Try.underlying29 Qfo (by rfl) (by decide) (by omega) (.slice Ao O.length co) O F _ (Qi.okO Bp Bo Bf Bm Bq (.slice Af F.length cf)) (fun k_=>some k_=(Value.slice Ac F.length cc).ownBlock) (by rfl) (by rfl) (Kd.M_row (Kd.R_tight rfl (Kd.R_lower HCC.out HI1.out.below.size))) (fun k_ e=>FR.out k_ (Kd.R_base HCC.out k_ e.symm)) (fun k_ hk=>(FR.out k_ (Nat.le_trans B12.out.size hk)).1) (Kd.S_mono (Kd.S_below (Kd.S_bound HI1.out.so) B12.out) (fun k_ hk=>⟨hk.1,fun e=>by have h1:=Kd.R_base HCC.out k_ e.symm;have h2:=hk.2.2.1;omega⟩)) (below_to HI1.out.below B12.out) (Nat.le_trans HI1.out.below.size B12.out.size) (by have:=HL.out.2;omega) ?_;intro v3 w3 ho3 hb3 hg3 hat3;obtain ⟨A3,c3,e3⟩:=Kd.S_slice ho3;subst e3;have BO3:=Zk (Qb8 (Qd HI1.out.bo B12.out) hg3 (Kd.S_away HI1.out.so (fun _ hk=>hk.2.1)));have BF3:=Zk (Qb8 (Qd HI1.out.bf B12.out) hg3 (Kd.S_away HI1.out.so (fun _ hk=>hk.2.2.1)));have zo3:=Qb4 BO3.out 0;have zf3:=Qb4 BF3.out 0;have fz3:=Qg BO3.out 0;have zf4:=Qb4 (Qdf BF3.out (p:=⟨Bo,0,none⟩) NBF.out (.slice A3 (O++ [F]).length c3)) 0))
 all_goals
  go_wp2
  ((try simp only [Exit.inBlock,Exit.then]);refine bodyPost_ret (results_none rfl _ _ _) rfl ?_)
  exact ⟨rfl,_,HI1.out.push B12.out ho3 hb3 hg3⟩
open Go.Proofs.Ytkgngggppcmpfaa.X in
set_option maxHeartbeats 3200000 in
set_option maxRecDepth 100000 in
theorem Qi.lit (k:Nat) (w0:World) (A0:Option Addr) (c0:Nat) (l0:List Int) (m:Int) (Bp Bo Bf Bm Bq:Nat) (vF:Value) (hr0:Kd.C (Kd.int .i64) w0 A0 l0.length l0) (hc0:l0.length≤c0): ∀ (d:Nat) (i:Int) (F:List Int) (O:List (List Int)) (F':List Int) (O':List (List Int)) (vO:Value) (W:World),Qi.Inv w0 W A0 l0.length c0 m Bp Bo Bf Bm Bq vF F O vO→Qi.put k l0 m d i F O=some (F',O')→
 Calls Try.prog 131 #[.int .i64 i, .pointer (some ⟨Bp,0,none⟩), .pointer (some ⟨Bo,0,none⟩), .pointer (some ⟨Bf,0,none⟩), .pointer (some ⟨Bm,0,none⟩), .pointer (some ⟨Bq,0,none⟩)] W fun e W'=>e= .returned (.tuple #[])∧ ∃ vO',Qi.Inv w0 W' A0 l0.length c0 m Bp Bo Bf Bm Bq vF F' O' vO':=by
 intro d
 induction d with
 |zero=>
  intro i F O F' O' vO W hI h;rw [Qi.put] at h
  split at h
  ·
   rename_i hi
   split at h
   ·
    rename_i hl;injection h with h
    injection h with h1 h2
    subst h1 h2 hi;exact Qi.lit0 w0 A0 c0 l0 m Bp Bo Bf Bm Bq vF hr0 hc0 F O vO W hI hl
   ·
    cases h
  ·
   cases h
 |succ d ih=>
  intro i F O F' O' vO W hI h;rw [Qi.put] at h
  by_cases hi:i=(l0.length:Int)
  ·
   rw [if_pos hi] at h
   split at h
   ·
    rename_i hl;injection h with h
    injection h with h1 h2
    subst h1 h2 hi;exact Qi.lit0 w0 A0 c0 l0 m Bp Bo Bf Bm Bq vF hr0 hc0 F O vO W hI hl
   ·
    cases h
  ·
   rw [if_neg hi] at h
   split at h
   ·
    rename_i hir;have hn_:=Option.bind_eq_some_iff.mp h;clear h;obtain ⟨js,hjs,h⟩:=hn_
    split at h
    ·
     rename_i hjl;have hn_:=Option.bind_eq_some_iff.mp h;clear h;obtain ⟨lo,hlo,h⟩:=hn_;have IH:=Zk ih;have HR:=Zk hr0;have HC:=Zk hc0;have HJ:=Zk hjs;have HJL:=Zk hjl;have HLO:=Zk hlo;have HF:=Zk h;have HI:=Zk hI;have zp:=Qb4 hI.bp 0;clear hr0 hc0 hI hjs hjl hlo h ih;have hu:=Try.underlying26;have hib:(i==(l0.length:Int))=false:=beq_eq_false_iff_ne.mpr hi;go_enter Try.func131,Try.ntmps131;go_wp2_with fail;refine (Qb1.calls _ _ l0 _ _ (Kd.C_below HR.out HI.out.below) HC.out rfl).mono ?_;rintro e w1 ⟨rfl,hb⟩;have HI1:=Zk (HI.out.step hb);clear hb HI zp;obtain ⟨Af,cf,eF⟩:=Kd.R_slice HI1.out.rf;subst eF;have zp:=Qb4 HI1.out.bp 0;obtain ⟨ad,e1,hx0⟩:=Kd.at_int (Kd.C_below HR.out HI1.out.below) i hir.1 hir.2;cases e1;have p1:=hir.1;have p2:=hir.2;go_wp2_with fail;refine (Qbr.calls k _ js _ HJ.out).mono ?_;rintro e w2 ⟨vJ,rfl,hR,hb⟩;obtain ⟨AJ,cJ,rfl,hlJ,hCJ⟩:=Kd.R_reads hR;have HI2:=Zk (HI1.out.step hb);have CJ:=Zk hCJ;clear hb hR hCJ hlJ HI1 zp hx0;have zf:=Qb4 HI2.out.bf 0;go_wp2_with fail
     go_loopw [7,27] (fun v7 v27 wi=> ∃ (q:Nat) (a:Int),v27= .int .i64 q∧v7= .int .i64 a∧q≤js.length∧Z0 (Qi.least F (js.drop q) a=some lo)∧wi=w2) (fun _ v27 _=>js.length - (intOf v27).toNat)
     case atStart=>exact ⟨0,0,rfl,rfl,Nat.zero_le _,⟨by rw [List.drop_zero];exact HLO.out⟩,rfl⟩
     case round=>
      obtain ⟨q,a,rfl,rfl,hq,HS,rfl⟩:=hrel
      by_cases hql:q<js.length
      ·
       have hs:=HS.out;rw [List.drop_eq_getElem_cons hql,Qi.least] at hs
       split at hs
       ·
        rename_i hj;obtain ⟨ad1,e1,hx0⟩:=Kd.at_int CJ.out (q:Int) (by omega) (by omega);rw [Int.toNat_natCast] at hx0;cases e1;have hx:=hx0;rw [show rd js (q:Int)=js[q] by simp [rd,List.getD_eq_getElem?_getD,hql]] at hx;obtain ⟨ad2,e2,hy⟩:=Kd.at_int (Kd.R_reads' HI2.out.rf).2.2 js[q] hj.1 hj.2;cases e2;obtain ⟨j,hje⟩: ∃ j,j=js[q] :=⟨_,rfl⟩
        rw [←hje] at hx hy hj hs;have HS2:=Zk hs;have p4:0≤((q:Nat):Int):=by omega
        have q4:((q:Nat):Int)<(js.length:Int):=by omega
        have p5:=hj.1;have q5:=hj.2;have hq1:q+1≤js.length:=hql;have e3:wrap64 ((q:Int)+1)=((q+1:Nat):Int):=by have:=HJL.out;unfold wrap64;omega
        clear hje hx0 hs HS hj;go_wp2;go_roundw
        case rel=>exact ⟨q+1,mx a (rd F j),by first|rw [e3] |rfl,by first|rfl|(congr 1;unfold mx;split<;>omega),hq1,HS2,by first|trivial|rfl⟩
        case measure=>(try simp only [e3]);exact (Nat.sub_lt_sub_left hql (Nat.lt_succ_self q):js.length - (q+1)<js.length - q)
       ·
        cases hs
      ·
       have hs:=HS.out;rw [List.drop_of_length_le (by omega),Qi.least] at hs;have hlo:=Option.some.inj hs;subst hlo;clear HS hs zf;go_wp2_with fail;have eg:=Qiw Try.func131 (by kernel_rfl) rfl;obtain ⟨r0,hr0⟩: ∃ r0,r0=(m+1 - a).toNat:=⟨_,rfl⟩
       have HF2:=Zk (show Qi.loop (Qi.put k l0 m d (wrap64 (i+1))) i m r0 a F O=some (F',O') by rw [hr0];exact HF.out);clear hr0 HF
       go_loopg [10] r0 (fun kq v10 wl=> ∃ (kk:Int) (F1:List Int) (O1:List (List Int)) (vO1:Value),v10= .int .i64 kk∧Z0 (Qi.loop (Qi.put k l0 m d (wrap64 (i+1))) i m kq kk F1 O1=some (F',O'))∧Z0 (kq≤r0)∧Z0 (Qi.Inv w0 wl (some ad) l0.length c0 m Bp Bo Bf Bm Bq (.slice Af F.length cf) F1 O1 vO1))
       case atStart=>exact ⟨a,F,O,vO,rfl,HF2,⟨Nat.le_refl _⟩,HI2⟩
       case round=>
        clear HF2 HI2;obtain ⟨kk,F1,O1,vO1,rfl,HA,HK1,HI⟩:=hrel;have zm:=Qb4 HI.out.bm 0
        by_cases hkm:kk≤m
        ·
         have hkb:decide (kk≤m)=true:=decide_eq_true hkm;cases gk with
         |zero=>
          have hA:=HA.out;rw [Qi.loop,if_pos hkm] at hA;cases hA
         |succ k1=>
          have hA:=HA.out;rw [Qi.loop,if_pos hkm] at hA
          split at hA
          ·
           rename_i hir2;obtain ⟨t,ht,hA⟩:=Option.bind_eq_some_iff.mp hA;have HT:=Zk ht;have HA2:=Zk hA;obtain ⟨gf,cf2,e5,hgb,hgl,cells,hg⟩:=Kd.R_form HI.out.rf (by omega);injection e5 with e51 hle e53
           subst e51 e53;have zf:=Qb4 HI.out.bf 0;obtain ⟨ad2,e6,hy⟩:=Kd.at_int (Kd.R_reads' HI.out.rf).2.2 i hir2.1 (by omega);cases e6;have hfz:=Qg hg i.toNat;have p6:i<(F.length:Int):=by omega
           have hy2:wr.cell? ⟨gf,i.toNat,none⟩=some (.int .i64 (rd F1 i)):=by
            by_cases h0:i≤0
            ·
             have:i=0:=by omega
             subst this
             simpa [Addr.add] using hy
            ·
             simpa [Addr.add,h0] using hy
           have HIP:=Zk (HI.out.put i kk);have zq:=Qb4 HIP.out.bq 0;clear ht hA HA hkm hy;go_wp2_with fail;refine (IH.out (wrap64 (i+1)) (F1.set i.toNat kk) O1 t.1 t.2 vO1 _ HIP.out HT.out).mono ?_;rintro e w4 ⟨rfl,vO2,hI4⟩;have HI4:=Zk hI4;clear hI4 HIP HI zf zm zq hfz hy2 hg;go_wp2;go_roundg k1
           case measure=>have:=HK1.out;omega
           case rel=>exact ⟨wrap64 (kk+1),t.1,t.2,vO2,rfl,HA2,⟨by have:=HK1.out;omega⟩,HI4⟩
          ·
           cases hA
        ·
         have hkb:decide (kk≤m)=false:=decide_eq_false hkm;have hA2:some (F1,O1)=some (F',O'):=by
          have hA:=HA.out;cases gk with
          |zero=>rw [Qi.loop,if_neg hkm] at hA;exact hA
          |succ k1=>rw [Qi.loop,if_neg hkm] at hA;exact hA
         injection hA2 with hA2
         injection hA2 with h1 h2
         subst h1 h2;clear HA;go_wp2;go_end0;exact ⟨rfl,_,HI.out⟩
    ·
     cases h
   ·
    cases h
theorem Qi.asz (w:World) (o:Obj):(w.alloc o).heap.size=w.heap.size+1:=Array.size_push ..
theorem Qi.nsz (w:World) (m:Nat):(w.drewN m).heap.size=w.heap.size:=rfl
theorem Qi.ssz (w:World) (a:Addr) (v:Value):(w.setCell a v).heap.size=w.heap.size:=by simp [World.setCell]
theorem Qi.new (w:World) (o:Obj) {g:Nat} (h:g=w.heap.size):(w.alloc o).heap[g]? =some o:=by subst h;exact Qf1 w o
theorem Qi.lit_R {α:Type} (d:Kd α) {W:World} (base e g:Nat) {xs:List α} {inner:List Value} {ok okp:Nat→Prop} (hrep:Reps (d.M W base okp) d.sz xs inner) (hok: ∀ k,okp k→ok k) (hg:g=W.heap.size) (hfresh:ok g) (hbase:base≤g) (hm:xs.length≤9223372036854775807):
 d.R e (W.alloc (.cells inner.toArray e)) base ok (.slice (some ⟨g,0,none⟩) xs.length xs.length) xs:=by
 subst hg;refine ⟨fun k hk=> ?_,inner,?_,?_⟩
 ·
  have:W.heap.size=k:=by simpa [Value.ownBlock] using hk
  subst this;exact hfresh
 ·
  have h2:=World.ownsRow_lit (base:=base) (e:=e) (size:=d.sz) W inner.toArray xs.length hbase (by simpa [maxLen] using hm) (by simpa using hrep.1)
  simpa using h2
 ·
  refine hrep.imp_ (fun p c hp=>d.M_mono (fun k hk=>⟨hok k hk.1,fun he=> ?_⟩) (Kd.M_below (d.M_bound hp) (Qq (Below.refl _ _) _)));have h3:k=W.heap.size:=by simpa [Value.ownBlock] using he
  have:=hk.2.2.1;omega
theorem Qi.made_R (W:World) (base g m:Nat) (hg:g=W.heap.size) (hbase:base≤g) (hm:m≤35184372088832):
 Kd.R (Kd.int .i64) 3 (W.alloc (.cells (madeCells #[.int .i64 0] m) 3)) base (fun k=>some k=(Value.slice (some ⟨g,0,none⟩) m m).ownBlock) (.slice (some ⟨g,0,none⟩) m m) (List.replicate m 0):=by
 have hr:Reps ((Kd.int .i64).M W base (fun _=>True)) 1 (List.replicate m (0:Int)) (madeCells (Value.int .i64 0).cells (m*1)).toList:=Kd.reps_made (z:= .int .i64 0) rfl (by decide) (by constructor<;>first|rfl|trivial) m;have h:=Qi.lit_R (Kd.int .i64) base 3 g (ok:=fun k=>some k=(Value.slice (some ⟨g,0,none⟩) m m).ownBlock) (okp:=fun _=>False) hr (fun _ h=>h.elim) hg rfl hbase (by rw [List.length_replicate];omega);rw [List.length_replicate,Nat.mul_one] at h;exact h
theorem Qi.nil_S (W:World) (base g:Nat) (ok:Nat→Prop) (hg:g=W.heap.size) (hok:ok g) (hbase:base≤g):
 Kd.S (Kd.slice 3 (Kd.int .i64)) 24 (W.alloc (.cells #[] 24)) base ok (.slice (some ⟨g,0,none⟩) 0 0) [] :=
 Kd.S_bare (Qi.lit_R (Kd.bare (Kd.slice 3 (Kd.int .i64))) base 24 g (xs:= []) (inner:= []) (okp:=ok) (Reps.none _ _) (fun _ h=>h) hg hok hbase (Nat.zero_le _))
set_option maxHeartbeats 800000 in
set_option maxRecDepth 100000 in
theorem Qi.size (A:Option Addr) (n c:Nat) (W:World):
 Calls Try.prog 65 #[.agg #[.slice A n c]] W fun e w'=>e= .returned (.int .i64 (n:Int))∧ ∃ m,w'=(W.alloc (.cells #[.slice A n c] 26)).drewN m:=by
 have hu:=Try.underlying26;go_enter Try.func65,Try.ntmps65;go_wp2
 go_ret
 exact ⟨rfl,0,rfl⟩
structure Qi.RI (w W : World) (A0 : Option Addr) (n c0 : Nat) (a1 : Int) (b0 b1 b2 b3 b4 b5 b6 b7 : Bool) (a : Act) (g1 g2 Bo Bf : Nat) (x5 x6 x8 x9 x10 x11 : Value) : Prop where
 act:a= { tmps:= #[.agg #[.slice A0 n c0], .int .i64 a1, .pointer (some ⟨w.heap.size,0,none⟩), .pointer (some ⟨w.heap.size+1,0,none⟩), .slice none 0 0,x5,x6,undef,x8,x9,x10,x11,undef,undef,undef,undef],defers:= [] }
 below:Below w.heap.size w W
 sz:w.heap.size+2≤W.heap.size
 bp:W.heap[w.heap.size]? =some (.cells #[.slice A0 n c0] 26 (0,0))
 bm:W.heap[w.heap.size+1]? =some (.cells #[.int .i64 a1] 3 (0,0))
 s0:b0=true→x8= .slice (some ⟨g1,0,none⟩) 0 0∧w.heap.size+2≤g1∧g1<W.heap.size∧Kd.S (Kd.slice 3 (Kd.int .i64)) 24 W w.heap.size (fun k=>k=g1) (.slice (some ⟨g1,0,none⟩) 0 0) []
 s1:b1=true→x9= .agg #[.slice A0 n c0]
 s2:b2=true→x10= .int .i64 (n:Int)
 s3:b3=true→x11= .slice (some ⟨g2,0,none⟩) n n∧w.heap.size+2≤g2∧g2<W.heap.size∧Kd.R (Kd.int .i64) 3 W w.heap.size (fun k=>some k=(Value.slice (some ⟨g2,0,none⟩) n n).ownBlock) (.slice (some ⟨g2,0,none⟩) n n) (List.replicate n 0)
 s4:b4=true→x5= .pointer (some ⟨Bo,0,none⟩)∧w.heap.size+2≤Bo∧W.heap[Bo]? =some (.cells #[if b6=true then .slice (some ⟨g1,0,none⟩) 0 0 else .slice none 0 0] 29 (0,0))
 s5:b5=true→x6= .pointer (some ⟨Bf,0,none⟩)∧w.heap.size+2≤Bf∧W.heap[Bf]? =some (.cells #[if b7=true then .slice (some ⟨g2,0,none⟩) n n else .slice none 0 0] 24 (0,0))
 d1:b0=true→b4=true→g1≠Bo
 d2:b0=true→b5=true→g1≠Bf
 d3:b0=true→b3=true→g1≠g2
 d4:b4=true→b5=true→Bo≠Bf
 d5:b3=true→b4=true→g2≠Bo
 d6:b3=true→b5=true→g2≠Bf
 c6:b6=true→b0=true∧b4=true
 c7:b7=true→b3=true∧b5=true
theorem Qi.RI.grow {w W W1:World} {A0:Option Addr} {n c0:Nat} {a1:Int} {b0 b1 b2 b3 b4 b5 b6 b7:Bool} {a:Act} {g1 g2 Bo Bf:Nat} {x5 x6 x8 x9 x10 x11:Value} (h:Qi.RI w W A0 n c0 a1 b0 b1 b2 b3 b4 b5 b6 b7 a g1 g2 Bo Bf x5 x6 x8 x9 x10 x11) (hb:Below W.heap.size W W1):
 Qi.RI w W1 A0 n c0 a1 b0 b1 b2 b3 b4 b5 b6 b7 a g1 g2 Bo Bf x5 x6 x8 x9 x10 x11:=
 have hs:=hb.size
 { h with below:=Go.Proofs.Ytkgngggppcmpfaa.X.below_to h.below hb,sz:=Nat.le_trans h.sz hs,bp:=Qd h.bp hb,bm:=Qd h.bm hb,s0:=fun e=>⟨(h.s0 e).1,(h.s0 e).2.1,Nat.lt_of_lt_of_le (h.s0 e).2.2.1 hs,Kd.S_below (h.s0 e).2.2.2 hb⟩,s3:=fun e=>⟨(h.s3 e).1,(h.s3 e).2.1,Nat.lt_of_lt_of_le (h.s3 e).2.2.1 hs,Kd.R_below (h.s3 e).2.2.2 hb⟩,s4:=fun e=>⟨(h.s4 e).1,(h.s4 e).2.1,Qd (h.s4 e).2.2 hb⟩,s5:=fun e=>⟨(h.s5 e).1,(h.s5 e).2.1,Qd (h.s5 e).2.2 hb⟩ }
def Qi.rdy (b0 b1 b2 b3 b4 b5 b6 b7:Bool) (i:Nat):Bool:=(i==0 && !b0)||(i==1 && !b1)||(i==2 && !b2 && b1)||(i==3 && !b3 && b2)||(i==4 && !b4)||(i==5 && !b5)||(i==6 && !b6 && b0 && b4)||(i==7 && !b7 && b3 && b5)
theorem Qi.rdy_ok: ∀ b0 b1 b2 b3 b4 b5 b6 b7:Bool,((Region.ready .any (Qfx Try.f108 1) #[b0,b1,b2,b3,b4,b5,b6,b7]).all (Qi.rdy b0 b1 b2 b3 b4 b5 b6 b7) && (!(Region.ready .any (Qfx Try.f108 1) #[b0,b1,b2,b3,b4,b5,b6,b7]).isEmpty||(b0 && b1 && b2 && b3 && b4 && b5 && b6 && b7)))=true:=by decide+kernel
open Go.Proofs.Ytkgngggppcmpfaa.X in
set_option maxHeartbeats 40000000 in
set_option maxRecDepth 100000 in
theorem Qi.calls (k:Nat) (A0_0:Option Addr) (c0_0:Nat) (l0_0:List Int) (a1:Int) (r:List (List Int)) (w:World) (hr0_0:Kd.C (Kd.int .i64) w A0_0 l0_0.length l0_0) (hc0_0:l0_0.length≤c0_0) (h:Qi.f k l0_0 a1=some r):
 Calls Try.prog 108 #[.agg #[.slice A0_0 l0_0.length c0_0], .int .i64 a1] w fun e w'=> ∃ v0_:Value,e= .returned v0_∧Kd.S (Kd.slice 3 (Kd.int .i64)) 24 w' w.heap.size (fun _=>True) v0_ r∧Below w.heap.size w w':=by
 have HR:=Zk hr0_0;have HC:=Zk hc0_0;clear hr0_0 hc0_0;unfold Qi.f at h
 split at h
 ·
  rename_i hlen;obtain ⟨t,ht,h1⟩:=Option.map_eq_some_iff.mp h;have HT:=Zk ht;have HL:=Zk hlen;have HE:=Zk h1;clear ht hlen h1 h;have hu:=Try.underlying26;have hmk:=Qkr (P:=Try.prog) 24 3 .i64 8 Try.underlying24 rfl (by decide) l0_0.length (by have:=HL.out;omega);go_enter Try.func108,Try.ntmps108;go_wp2_with fail;rename_i K1 hK1;have tail: ∀ (W:World) (Bo Bf g1 g2:Nat),Below w.heap.size w W→W.heap[w.heap.size]? =some (.cells #[.slice A0_0 l0_0.length c0_0] 26 (0,0))→W.heap[w.heap.size+1]? =some (.cells #[.int .i64 a1] 3 (0,0))→
   W.heap[Bo]? =some (.cells #[.slice (some ⟨g1,0,none⟩) 0 0] 29 (0,0))→W.heap[Bf]? =some (.cells #[.slice (some ⟨g2,0,none⟩) l0_0.length l0_0.length] 24 (0,0))→
   Kd.S (Kd.slice 3 (Kd.int .i64)) 24 W w.heap.size (fun k=>k=g1) (.slice (some ⟨g1,0,none⟩) 0 0) [] →
   Kd.R (Kd.int .i64) 3 W w.heap.size (fun k=>some k=(Value.slice (some ⟨g2,0,none⟩) l0_0.length l0_0.length).ownBlock) (.slice (some ⟨g2,0,none⟩) l0_0.length l0_0.length) (List.replicate l0_0.length 0)→
   w.heap.size+2≤g1→g1≠Bo→g1≠Bf→g1≠g2→w.heap.size+2≤g2→w.heap.size≤Bo→g1<W.heap.size→
   K1 { tmps:= #[.agg #[.slice A0_0 l0_0.length c0_0], .int .i64 a1, .pointer (some ⟨w.heap.size,0,none⟩), .pointer (some ⟨w.heap.size+1,0,none⟩), .slice none 0 0, .pointer (some ⟨Bo,0,none⟩), .pointer (some ⟨Bf,0,none⟩),undef, .slice (some ⟨g1,0,none⟩) 0 0, .agg #[.slice A0_0 l0_0.length c0_0], .int .i64 (l0_0.length:Int), .slice (some ⟨g2,0,none⟩) l0_0.length l0_0.length,undef,undef,undef,undef],defers:= [] } W:=by
   intro W Bo Bf g1 g2 hb hp hm ho hf hS hR n1 n2 n3 n4 n5 n6 n7;refine hK1 _ _ ?_;clear hK1;have HI:=Zk (show Qi.Inv w (W.alloc (.cells #[.func (.func 131) #[] #[.pointer (some ⟨w.heap.size,0,none⟩), .pointer (some ⟨Bo,0,none⟩), .pointer (some ⟨Bf,0,none⟩), .pointer (some ⟨w.heap.size+1,0,none⟩), .pointer (some ⟨W.heap.size,0,none⟩)]] 107)) A0_0 l0_0.length c0_0 a1 w.heap.size Bo Bf (w.heap.size+1) W.heap.size (.slice (some ⟨g2,0,none⟩) l0_0.length l0_0.length) (List.replicate l0_0.length 0) [] (.slice (some ⟨g1,0,none⟩) 0 0) from
    ⟨Qq hb _,Qbk hp _,Qbk ho _,Qbk hf _,Qbk hm _,Qf1 _ _,Kd.S_mono (Kd.S_alloc hS _) (fun k hk=>by subst hk;exact ⟨by omega,n2,n3,by omega,by omega,fun e=>n4 (by simpa [Value.ownBlock] using e)⟩),Kd.R_alloc hR _,(fun e=>absurd (Option.some.inj e:w.heap.size+1=g2) (by omega)),n6⟩)
   clear hb hp hm ho hf hS hR n1 n2 n3 n4 n5 n6 n7;have hsf: ∀ (a_:Addr) (f_:Fn) (x_ y_:Array Value) (w_:World),(store a_ (.func f_ x_ y_) .plain).run Try.prog w_=stored Try.prog w_ a_ (.func f_ x_ y_) .plain:=fun a_ f_ x_ y_ w_=>run_store Try.prog w_ a_ (.func f_ x_ y_) .plain rfl
   go_wp2_with fail;refine (Qi.lit k w A0_0 c0_0 l0_0 a1 _ _ _ _ _ _ HR.out HC.out l0_0.length 0 _ _ t.1 t.2 _ _ HI.out HT.out).mono ?_;rintro e w4 ⟨rfl,vO2,hI⟩;obtain ⟨Ao,co,eO⟩:=Kd.S_slice hI.so;subst eO;have zo:=Qb4 hI.bo 0;have HS:=Zk (Kd.S_mono hI.so (ok':=fun _=>True) (fun _ _=>trivial));have HB:=Zk hI.below;clear hI HI;go_wp2
   go_ret
   exact ⟨_,rfl,by rw [←HE.out];exact HS.out,HB.out⟩
  refine reg_any (n:=8) (fun l a W=> ∃ b0 b1 b2 b3 b4 b5 b6 b7 g1 g2 Bo Bf x5 x6 x8 x9 x10 x11,l= #[b0,b1,b2,b3,b4,b5,b6,b7] ∧Qi.RI w W A0_0 l0_0.length c0_0 a1 b0 b1 b2 b3 b4 b5 b6 b7 a g1 g2 Bo Bf x5 x6 x8 x9 x10 x11) (by kernel_rfl) rfl ?_ ?_ ?_
  ·
   refine ⟨false,false,false,false,false,false,false,false,0,0,0,0,undef,undef,undef,undef,undef,undef,rfl,?_⟩;have hb:Below w.heap.size w (((w.alloc (Obj.cells #[Value.slice A0_0 l0_0.length c0_0] 26)).alloc (Obj.cells #[Value.int IntKind.i64 a1] 3)).drew):=Qbb (Qq (Qq (Below.refl _ _) _) _);refine ⟨rfl,hb,by (show w.heap.size+2≤((w.alloc _).alloc _).heap.size);rw [Qi.asz,Qi.asz];exact Nat.le_refl _,?_,?_,nofun,nofun,nofun,nofun,nofun,nofun,nofun,nofun,nofun,nofun,nofun,nofun,nofun,nofun⟩
   ·
    exact Qbj (Qbk (Qf1 _ _) _)
   ·
    refine Qbj ?_;have:=Qf1 (w.alloc (Obj.cells #[Value.slice A0_0 l0_0.length c0_0] 26)) (Obj.cells #[Value.int IntKind.i64 a1] 3);rw [Qi.asz] at this;exact this
  ·
   rintro l a W i ⟨b0,b1,b2,b3,b4,b5,b6,b7,g1,g2,Bo,Bf,x5,x6,x8,x9,x10,x11,rfl,h⟩ hi;have hq:=List.all_eq_true.mp (Bool.and_eq_true_iff.mp (Qi.rdy_ok b0 b1 b2 b3 b4 b5 b6 b7)).1 i hi;clear hi;simp only [Qi.rdy,Bool.or_eq_true,Bool.and_eq_true,beq_iff_eq,Bool.not_eq_true'] at hq;obtain rfl:=h.act;have hsz:=h.sz;have hlo:b4=true→Bo<W.heap.size:=fun e=>Qb9 (h.s4 e).2.2
   have hlf:b5=true→Bf<W.heap.size:=fun e=>Qb9 (h.s5 e).2.2
   rcases hq with ((((((⟨rfl,rfl⟩|⟨rfl,rfl⟩)|⟨⟨rfl,rfl⟩,rfl⟩)|⟨⟨rfl,rfl⟩,rfl⟩)|⟨rfl,rfl⟩)|⟨rfl,rfl⟩)|⟨⟨⟨rfl,rfl⟩,rfl⟩,rfl⟩)|⟨⟨⟨rfl,rfl⟩,rfl⟩,rfl⟩
   ·
    refine wpOp_step rfl (fun K' hK=> ?_);rw [if_pos (by rfl)];unfold Oper.wp;go_simp;refine hK _ _ ⟨true,b1,b2,b3,b4,b5,b6,b7,W.heap.size,g2,Bo,Bf,x5,x6, .slice (some ⟨W.heap.size,0,none⟩) 0 0,x9,x10,x11,rfl,?_⟩;have e6:b6=false:=by cases b6 with
     |false=>rfl
     |true=>exact absurd (h.c6 rfl).1 (by simp)
    subst e6;have h':=h.grow (Qq (Below.refl _ _) (Obj.cells #[] 24));exact { h' with act:=rfl,s0:=fun _=>⟨rfl,hsz,by rw [Qi.asz];exact Nat.lt_succ_self _,Qi.nil_S _ _ _ _ rfl rfl (by omega)⟩,d1:=fun _ e=>by have:=hlo e;omega,d2:=fun _ e=>by have:=hlf e;omega,d3:=fun _ e=>by have:=(h.s3 e).2.2.1;omega,c6:=nofun }
   ·
    refine wpOp_step rfl (fun K' hK=> ?_);rw [if_pos (by rfl)];have hz:=Qb4 h.bp 0;unfold Oper.wp;go_simp;refine hK _ _ ⟨b0,true,b2,b3,b4,b5,b6,b7,g1,g2,Bo,Bf,x5,x6,x8, .agg #[.slice A0_0 l0_0.length c0_0],x10,x11,rfl,{ h with act:=rfl,s1:=fun _=>rfl }⟩
   ·
    obtain rfl:=h.s1 rfl;refine wpOp_step rfl (fun K' hK=> ?_);rw [if_pos (by rfl)];go_simp;go_at_call 65;refine (Qi.size _ _ _ _).mono ?_;rintro e w2 ⟨rfl,m,rfl⟩;dsimp only;refine hK _ _ ⟨b0,true,true,b3,b4,b5,b6,b7,g1,g2,Bo,Bf,x5,x6,x8, .agg #[.slice A0_0 l0_0.length c0_0], .int .i64 (l0_0.length:Int),x11,rfl,?_⟩;exact { h.grow (Qw (Qq (Below.refl _ _) _) m) with act:=rfl,s1:=fun _=>rfl,s2:=fun _=>rfl }
   ·
    obtain rfl:=h.s2 rfl;refine wpOp_step rfl (fun K' hK=> ?_);rw [if_pos (by rfl)];unfold Oper.wp;go_simp;refine hK _ _ ⟨b0,b1,true,true,b4,b5,b6,b7,g1,W.heap.size,Bo,Bf,x5,x6,x8,x9, .int .i64 (l0_0.length:Int), .slice (some ⟨W.heap.size,0,none⟩) l0_0.length l0_0.length,rfl,?_⟩;have e7:b7=false:=by cases b7 with
     |false=>rfl
     |true=>exact absurd (h.c7 rfl).1 (by simp)
    subst e7;have h':=h.grow (Qq (Below.refl _ _) (Obj.cells (madeCells #[.int .i64 0] l0_0.length) 3));exact { h' with act:=rfl,s2:=fun _=>rfl,s3:=fun _=>⟨rfl,hsz,by rw [Qi.asz];exact Nat.lt_succ_self _,Qi.made_R _ _ _ _ rfl (by omega) HL.out⟩,d3:=fun e _=>by have:=(h.s0 e).2.2.1;omega,d5:=fun _ e=>by have:=hlo e;omega,d6:=fun _ e=>by have:=hlf e;omega,c7:=nofun }
   ·
    refine wpOp_step rfl (fun K' hK=> ?_);rw [if_pos (by rfl)];unfold Oper.wp;go_simp;refine hK _ _ ⟨b0,b1,b2,b3,true,b5,b6,b7,g1,g2,W.heap.size,Bf, .pointer (some ⟨W.heap.size,0,none⟩),x6,x8,x9,x10,x11,rfl,?_⟩;have e6:b6=false:=by cases b6 with
     |false=>rfl
     |true=>exact absurd (h.c6 rfl).2 (by simp)
    subst e6;have h':=h.grow (Qq (Below.refl _ _) (Obj.cells #[.slice none 0 0] 29));exact { h' with act:=rfl,s4:=fun _=>⟨rfl,hsz,Qf1 _ _⟩,d1:=fun e _=>by have:=(h.s0 e).2.2.1;omega,d4:=fun _ e=>by have:=hlf e;omega,d5:=fun e _=>by have:=(h.s3 e).2.2.1;omega,c6:=nofun }
   ·
    refine wpOp_step rfl (fun K' hK=> ?_);rw [if_pos (by rfl)];unfold Oper.wp;go_simp;refine hK _ _ ⟨b0,b1,b2,b3,b4,true,b6,b7,g1,g2,Bo,W.heap.size,x5, .pointer (some ⟨W.heap.size,0,none⟩),x8,x9,x10,x11,rfl,?_⟩;have e7:b7=false:=by cases b7 with
     |false=>rfl
     |true=>exact absurd (h.c7 rfl).2 (by simp)
    subst e7;have h':=h.grow (Qq (Below.refl _ _) (Obj.cells #[.slice none 0 0] 24));exact { h' with act:=rfl,s5:=fun _=>⟨rfl,hsz,Qf1 _ _⟩,d2:=fun e _=>by have:=(h.s0 e).2.2.1;omega,d4:=fun e _=>by have:=hlo e;omega,d6:=fun e _=>by have:=(h.s3 e).2.2.1;omega,c7:=nofun }
   ·
    obtain ⟨rfl,n1,n2,hS⟩:=h.s0 rfl;obtain ⟨rfl,n3,hB⟩:=h.s4 rfl;have hz:=Qb4 hB 0;have hf:=Qg hB 0;have dd:=h.d1 rfl rfl;refine wpOp_step rfl (fun K' hK=> ?_);rw [if_pos (by rfl)];unfold Oper.wp;go_simp;refine hK _ _ ⟨true,b1,b2,b3,true,b5,true,b7,g1,g2,Bo,Bf, .pointer (some ⟨Bo,0,none⟩),x6, .slice (some ⟨g1,0,none⟩) 0 0,x9,x10,x11,rfl,?_⟩;exact { act:=rfl,below:=Q1 h.below (by omega),sz:=by rw [Qi.ssz];exact h.sz,bp:=Qdf h.bp (by dsimp only;omega) _,bm:=Qdf h.bm (by dsimp only;omega) _,s0:=fun _=>⟨rfl,n1,by rw [Qi.ssz];exact n2,Kd.S_far hS (fun k_ hk_=>by subst hk_;exact dd) _⟩,s1:=h.s1,s2:=h.s2,s3:=fun e=>⟨(h.s3 e).1,(h.s3 e).2.1,by rw [Qi.ssz];exact (h.s3 e).2.2.1,Kd.R_far (h.s3 e).2.2.2 (fun k_ hk_=>by have e_:=Option.some.inj hk_;subst e_;exact h.d5 e rfl) _⟩,s4:=fun _=>⟨rfl,n3,Qfk hB 0 _ rfl⟩,s5:=fun e=>⟨(h.s5 e).1,(h.s5 e).2.1,Qdf (h.s5 e).2.2 (fun q=>h.d4 rfl e q.symm) _⟩,d1:=h.d1,d2:=h.d2,d3:=h.d3,d4:=h.d4,d5:=h.d5,d6:=h.d6,c6:=fun _=>⟨rfl,rfl⟩,c7:=h.c7 }
   ·
    obtain ⟨rfl,n1,n2,hR⟩:=h.s3 rfl;obtain ⟨rfl,n3,hB⟩:=h.s5 rfl;have hz:=Qb4 hB 0;have hf:=Qg hB 0;have dd:=h.d6 rfl rfl;refine wpOp_step rfl (fun K' hK=> ?_);rw [if_pos (by rfl)];unfold Oper.wp;go_simp;refine hK _ _ ⟨b0,b1,b2,true,b4,true,b6,true,g1,g2,Bo,Bf,x5, .pointer (some ⟨Bf,0,none⟩),x8,x9,x10, .slice (some ⟨g2,0,none⟩) l0_0.length l0_0.length,rfl,?_⟩;exact { act:=rfl,below:=Q1 h.below (by omega),sz:=by rw [Qi.ssz];exact h.sz,bp:=Qdf h.bp (by dsimp only;omega) _,bm:=Qdf h.bm (by dsimp only;omega) _,s0:=fun e=>⟨(h.s0 e).1,(h.s0 e).2.1,by rw [Qi.ssz];exact (h.s0 e).2.2.1,Kd.S_far (h.s0 e).2.2.2 (fun k_ hk_=>by subst hk_;exact h.d2 e rfl) _⟩,s1:=h.s1,s2:=h.s2,s3:=fun _=>⟨rfl,n1,by rw [Qi.ssz];exact n2,Kd.R_far hR (fun k_ hk_=>by have e_:=Option.some.inj hk_;subst e_;exact dd) _⟩,s4:=fun e=>⟨(h.s4 e).1,(h.s4 e).2.1,Qdf (h.s4 e).2.2 (h.d4 e rfl) _⟩,s5:=fun _=>⟨rfl,n3,Qfk hB 0 _ rfl⟩,d1:=h.d1,d2:=h.d2,d3:=h.d3,d4:=h.d4,d5:=h.d5,d6:=h.d6,c6:=h.c6,c7:=fun _=>⟨rfl,rfl⟩ }
  ·
   rintro l a W ⟨b0,b1,b2,b3,b4,b5,b6,b7,g1,g2,Bo,Bf,x5,x6,x8,x9,x10,x11,rfl,h⟩ hr;have hq:=(Bool.and_eq_true_iff.mp (Qi.rdy_ok b0 b1 b2 b3 b4 b5 b6 b7)).2;have hr':Region.ready .any (Qfx Try.f108 1) #[b0,b1,b2,b3,b4,b5,b6,b7] = [] :=hr;rw [hr'] at hq;simp only [List.isEmpty_nil,Bool.not_true,Bool.false_or,Bool.and_eq_true] at hq;obtain ⟨⟨⟨⟨⟨⟨⟨rfl,rfl⟩,rfl⟩,rfl⟩,rfl⟩,rfl⟩,rfl⟩,rfl⟩:=hq;obtain rfl:=h.act;obtain ⟨rfl,n1,n2,hS⟩:=h.s0 rfl;obtain rfl:=h.s1 rfl;obtain rfl:=h.s2 rfl;obtain ⟨rfl,n3,n4,hR⟩:=h.s3 rfl;obtain ⟨rfl,n5,hO⟩:=h.s4 rfl;obtain ⟨rfl,n6,hF⟩:=h.s5 rfl;exact tail W Bo Bf g1 g2 h.below h.bp h.bm hO hF hS hR n1 (h.d1 rfl rfl) (h.d2 rfl rfl) (h.d3 rfl rfl) n3 (by omega) n2
 ·
  cases h
end Go.Proofs.Ytkgngggppcmpfaa.L
end
section
namespace Go.Proofs.Ytkgngggppcmpfaa.L
open Go.RowKit Go.Proofs.YtkgngggppcmpfaaW.PrintWords Go.Proofs.YtkgngggppcmpfaaW.PrintLast Go.Proofs.YtkgngggppcmpfaaW.PrintMore Go.Proofs.Ytkgngggppcmpfaa.X
attribute [local go_sem] Qbd Qbf Qbn Qbo Q3 Q4 Qbe Qbg
set_option linter.unusedVariables false
set_option linter.unusedSimpArgs false
def Qdg.f (k:Nat) (l0_0:List Int) (a1:Int):Option ((List (List Int)) × Bool):=(Q6.f k l0_0).bind fun t672=>(if t672=true then ((Qcd.f a1 0 4).bind fun t673=>(if t673=true then ((Qb1.f l0_0).bind fun t674=>(if t674>6 then (some (([] :List (List Int)),false)) else ((Qi.f k l0_0 a1).bind fun t675=>(some (t675,true))))) else (some (([] :List (List Int)),false)))) else (some (([] :List (List Int)),false)))
theorem Qdg.mono: ∀ a0 a1 k,LeO (Qdg.f k a0 a1) (Qdg.f (k+1) a0 a1):=by
 intro a0 a1 k;unfold Qdg.f
 repeat' (with_reducible first|apply Q6.mono|apply Qi.mono|exact LeO.refl _|exact LeO.none _|refine LeO.ite ?_ ?_|refine LeO.bind ?_ (fun _=> ?_))
set_option maxHeartbeats 8000000 in
set_option maxRecDepth 100000 in
theorem Qdg.calls (k:Nat) (A0_0:Option Addr) (c0_0:Nat) (l0_0:List Int) (a1:Int) (r1:List (List Int)) (r2:Bool) (w:World) (hr0_0:Kd.C (Kd.int .i64) w A0_0 l0_0.length l0_0) (hc0_0:l0_0.length≤c0_0) (h:Qdg.f k l0_0 a1=some (r1,r2)):
 Calls Try.prog 50 #[.agg #[.slice A0_0 l0_0.length c0_0], .int .i64 a1] w fun e w'=> ∃ v0_:Value,e= .returned (.tuple #[v0_, .bool r2])∧Kd.S (Kd.slice 3 (Kd.int .i64)) 24 w' w.heap.size (fun _=>True) v0_ r1∧Below w.heap.size w w':=by
 have hu26:=Try.underlying26;have HR0_0:=Zk hr0_0;have HC0_0:=Zk hc0_0;clear hr0_0 hc0_0;have HB:=Zk (Below.refl w.heap.size w);have H:((Q6.f k l0_0).bind fun t672=>(if t672=true then ((Qcd.f a1 0 4).bind fun t673=>(if t673=true then ((Qb1.f l0_0).bind fun t674=>(if t674>6 then (some (([] :List (List Int)),false)) else ((Qi.f k l0_0 a1).bind fun t675=>(some (t675,true))))) else (some (([] :List (List Int)),false)))) else (some (([] :List (List Int)),false))))=some (r1,r2):=h;clear h;obtain ⟨t672,A3,H⟩:=bs H;(try dsimp only at H)
 by_cases c4:t672=true
 ·
  subst c4;rw [if_pos rfl] at H;obtain ⟨t673,A5,H⟩:=bs H;(try dsimp only at H)
  by_cases c6:t673=true
  ·
   subst c6;rw [if_pos rfl] at H;obtain ⟨t674,A7,H⟩:=bs H;(try dsimp only at H)
   by_cases c8:t674>6
   ·
    rw [if_pos c8] at H;have c8b0:=decide_eq_true c8;clear c8;simp only [Option.some.injEq,Prod.mk.injEq] at H;obtain ⟨rfl,rfl⟩:=H;go_enter Try.func50,Try.ntmps50;go_wp2_with (first|(refine bE (N:=2) (cs:= #[.slice A0_0 l0_0.length c0_0]) (t:=26) ?_;intro gb671 hg w9 hbox hb;have BK671:=Zk (hbox);have GW671:=Zk ((by rw [hg];exact (Qh (uB HB)):w.heap.size≤gb671));have GE671:=GW671;replace HB:=Zk (Qc (uB HB) hb);clear hb hbox hg;have hcz10_0:=bC BK671;have hfz10_0:=Qg BK671.out 0)|(refine gA (some 7) Try.func75 #[.agg #[.slice A0_0 l0_0.length c0_0]] ?_;(with_reducible refine (Q6.calls k _ _ l0_0 true _ (uD HR0_0 HB) HC0_0.out A3.out).mono ?_);rintro e w11 ⟨rfl,hb⟩;refine ⟨_,rfl,?_⟩;replace BK671:=Zk (Qd (uK BK671) hb);replace HB:=Zk (Qc (vB HB) hb);(try clear hb))|(go_at_call 81;(with_reducible refine (Qcd.calls a1 0 4 true _ A5.out).mono ?_);rintro e w' ⟨rfl,⟨nd,rfl⟩⟩;have hcz12_0:=bC BK671;have hfz12_0:=Qg BK671.out 0)|(go_at_call 65;(with_reducible refine (Qb1.calls _ _ l0_0 t674 _ ?side1 HC0_0.out A7.out).mono ?_);(case side1=>repeat (first|exact (Kd.C_below HR0_0.out (vB HB))|(with_reducible refine Kd.C_alloc ?_ _)|(with_reducible refine Kd.C_drewN ?_ _)|(with_reducible refine Kd.C_drew ?_)));rintro e w13 ⟨rfl,hb⟩;replace BK671:=Zk (Qd (uK BK671) hb);replace HB:=Zk (Qc (vB HB) hb);(try clear hb)))
    go_ret2
    exact ⟨_,by first|rfl|(simp [Qe,Qf] <;>rfl)|(simp [*,Qe,Qf] <;>rfl),by first|exact Kd.S_nil _ _ _ _ _|exact Kd.N_nil _ _ _ _ _|exact Kd.V_nil _ _ _ _ _|exact Kd.Q_nil _ _ _ _ _|exact Kd.R_nil _ _ _ _ _,(vB HB)⟩
   ·
    rw [if_neg c8] at H;have c8b0:=decide_eq_false c8;clear c8;obtain ⟨t675,A14,H⟩:=bs H;(try dsimp only at H)
    simp only [Option.some.injEq,Prod.mk.injEq] at H;obtain ⟨rfl,rfl⟩:=H;go_enter Try.func50,Try.ntmps50;go_wp2_with (first|(refine bE (N:=2) (cs:= #[.slice A0_0 l0_0.length c0_0]) (t:=26) ?_;intro gb671 hg w15 hbox hb;have BK671:=Zk (hbox);have GW671:=Zk ((by rw [hg];exact (Qh (uB HB)):w.heap.size≤gb671));have GE671:=GW671;replace HB:=Zk (Qc (uB HB) hb);clear hb hbox hg;have hcz16_0:=bC BK671;have hfz16_0:=Qg BK671.out 0)|(refine gA (some 7) Try.func75 #[.agg #[.slice A0_0 l0_0.length c0_0]] ?_;(with_reducible refine (Q6.calls k _ _ l0_0 true _ (uD HR0_0 HB) HC0_0.out A3.out).mono ?_);rintro e w17 ⟨rfl,hb⟩;refine ⟨_,rfl,?_⟩;replace BK671:=Zk (Qd (uK BK671) hb);replace HB:=Zk (Qc (vB HB) hb);(try clear hb))|(go_at_call 81;(with_reducible refine (Qcd.calls a1 0 4 true _ A5.out).mono ?_);rintro e w' ⟨rfl,⟨nd,rfl⟩⟩;have hcz18_0:=bC BK671;have hfz18_0:=Qg BK671.out 0)|(go_at_call 65;(with_reducible refine (Qb1.calls _ _ l0_0 t674 _ ?side1 HC0_0.out A7.out).mono ?_);(case side1=>repeat (first|exact (Kd.C_below HR0_0.out (vB HB))|(with_reducible refine Kd.C_alloc ?_ _)|(with_reducible refine Kd.C_drewN ?_ _)|(with_reducible refine Kd.C_drew ?_)));rintro e w19 ⟨rfl,hb⟩;replace BK671:=Zk (Qd (uK BK671) hb);replace HB:=Zk (Qc (vB HB) hb);(try clear hb);have hcz20_0:=bC BK671;have hfz20_0:=Qg BK671.out 0)|(refine gA (some 21) Try.func108 #[.agg #[.slice A0_0 l0_0.length c0_0], .int .i64 a1] ?_;(with_reducible refine (Qi.calls k _ _ l0_0 a1 t675 _ (uD HR0_0 HB) HC0_0.out A14.out).mono ?_);rintro e w21 ⟨v676,rfl,ho0,hb⟩;refine ⟨_,rfl,?_⟩;have HO677:=Zk (Kd.S_lower ho0 (Qh (vB HB)));replace BK671:=Zk (Qd (uK BK671) hb);replace HB:=Zk (Qc (vB HB) hb);(try clear hb ho0)))
    go_ret2
    exact ⟨_,by first|rfl|(simp [Qe,Qf] <;>rfl)|(simp [*,Qe,Qf] <;>rfl),uS HO677,(vB HB)⟩
  ·
   replace c6:=Bool.eq_false_iff.mpr c6;subst c6;rw [if_neg (show ¬ (false=true) by decide)] at H;simp only [Option.some.injEq,Prod.mk.injEq] at H;obtain ⟨rfl,rfl⟩:=H;go_enter Try.func50,Try.ntmps50;go_wp2_with (first|(refine bE (N:=2) (cs:= #[.slice A0_0 l0_0.length c0_0]) (t:=26) ?_;intro gb671 hg w22 hbox hb;have BK671:=Zk (hbox);have GW671:=Zk ((by rw [hg];exact (Qh (uB HB)):w.heap.size≤gb671));have GE671:=GW671;replace HB:=Zk (Qc (uB HB) hb);clear hb hbox hg;have hcz23_0:=bC BK671;have hfz23_0:=Qg BK671.out 0)|(refine gA (some 7) Try.func75 #[.agg #[.slice A0_0 l0_0.length c0_0]] ?_;(with_reducible refine (Q6.calls k _ _ l0_0 true _ (uD HR0_0 HB) HC0_0.out A3.out).mono ?_);rintro e w24 ⟨rfl,hb⟩;refine ⟨_,rfl,?_⟩;replace BK671:=Zk (Qd (uK BK671) hb);replace HB:=Zk (Qc (vB HB) hb);(try clear hb))|(go_at_call 81;(with_reducible refine (Qcd.calls a1 0 4 false _ A5.out).mono ?_);rintro e w' ⟨rfl,⟨nd,rfl⟩⟩))
   go_ret2
   exact ⟨_,by first|rfl|(simp [Qe,Qf] <;>rfl)|(simp [*,Qe,Qf] <;>rfl),by first|exact Kd.S_nil _ _ _ _ _|exact Kd.N_nil _ _ _ _ _|exact Kd.V_nil _ _ _ _ _|exact Kd.Q_nil _ _ _ _ _|exact Kd.R_nil _ _ _ _ _,(vB HB)⟩
 ·
  replace c4:=Bool.eq_false_iff.mpr c4;subst c4;rw [if_neg (show ¬ (false=true) by decide)] at H;simp only [Option.some.injEq,Prod.mk.injEq] at H;obtain ⟨rfl,rfl⟩:=H;go_enter Try.func50,Try.ntmps50;go_wp2_with (first|(refine bE (N:=2) (cs:= #[.slice A0_0 l0_0.length c0_0]) (t:=26) ?_;intro gb671 hg w25 hbox hb;have BK671:=Zk (hbox);have GW671:=Zk ((by rw [hg];exact (Qh (uB HB)):w.heap.size≤gb671));have GE671:=GW671;replace HB:=Zk (Qc (uB HB) hb);clear hb hbox hg;have hcz26_0:=bC BK671;have hfz26_0:=Qg BK671.out 0)|(refine gA (some 7) Try.func75 #[.agg #[.slice A0_0 l0_0.length c0_0]] ?_;(with_reducible refine (Q6.calls k _ _ l0_0 false _ (uD HR0_0 HB) HC0_0.out A3.out).mono ?_);rintro e w27 ⟨rfl,hb⟩;refine ⟨_,rfl,?_⟩;replace BK671:=Zk (Qd (uK BK671) hb);replace HB:=Zk (Qc (vB HB) hb);(try clear hb)))
  go_ret2
  exact ⟨_,by first|rfl|(simp [Qe,Qf] <;>rfl)|(simp [*,Qe,Qf] <;>rfl),by first|exact Kd.S_nil _ _ _ _ _|exact Kd.N_nil _ _ _ _ _|exact Kd.V_nil _ _ _ _ _|exact Kd.Q_nil _ _ _ _ _|exact Kd.R_nil _ _ _ _ _,(vB HB)⟩
end Go.Proofs.Ytkgngggppcmpfaa.L
end
