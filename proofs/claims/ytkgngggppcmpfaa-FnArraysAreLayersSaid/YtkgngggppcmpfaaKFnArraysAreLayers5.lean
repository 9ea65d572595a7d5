/- Laws about the given program: the law FnArraysAreLayers answers true for every input that its row lets in; no condition is added to the given statement. Contracts of the Go functions that it reaches, and the plain proof over lists. -/
import Derived.Test.YtkgngggppcmpfaaWFnArraysAreLayers0
import Derived.Test.YtkgngggppcmpfaaKFnArraysAreLayers0
import Derived.Test.YtkgngggppcmpfaaKFnArraysAreLayers1
import Derived.Test.YtkgngggppcmpfaaKFnArraysAreLayers2
import Derived.Test.YtkgngggppcmpfaaKFnArraysAreLayers3
import Derived.Test.YtkgngggppcmpfaaKFnArraysAreLayers4
section
namespace Go.Proofs.Ytkgngggppcmpfaa.L
open Go.RowKit Go.Proofs.YtkgngggppcmpfaaW.PrintWords Go.Proofs.YtkgngggppcmpfaaW.PrintLast Go.Proofs.YtkgngggppcmpfaaW.PrintMore Go.Proofs.Ytkgngggppcmpfaa.X
attribute [local go_sem] Qbd Qbf Qbn Qbo Q3 Q4 Qbe Qbg
set_option linter.unusedVariables false
set_option linter.unusedSimpArgs false
mutual
def Qo.j0:Nat→List Int→Bool→List Int→Option (List Int × Bool)
 |0,_,_,_=>none
 |k+1,x1,x19,x526000=>if x19=true then (some (([] :List Int),false)) else (Qo.l0 k x1 x1 (x1.length:Int) 0 x526000)
def Qo.l0:Nat→List Int→List Int→Int→Int→List Int→Option (List Int × Bool)
 |0,_,_,_,_,_=>none
 |k+1,x1,x20,x21,x22,x526000=>if x22<x21 then (if 0≤x22 then (if x22<(x20.length:Int) then ((Qdk.f x526000 (rd x20 x22)).bind fun t528=>(if t528=true then ((Qbx.f k x526000 (rd x20 x22)).bind fun t529=>(if t529=true then (if x22>0 then (if 0≤(wrap64 (x22 - 1)) then (if (wrap64 (x22 - 1))<(x1.length:Int) then (if (Go.bits .andNot .i64 (rd x1 (wrap64 (x22 - 1))) (rd x20 x22))=0 then (Qo.l0 k x1 x20 x21 (wrap64 (x22+1)) x526000) else (some (([] :List Int),false))) else (none)) else (none)) else (Qo.l0 k x1 x20 x21 (wrap64 (x22+1)) x526000)) else (some (([] :List Int),false)))) else (some (([] :List Int),false)))) else (none)) else (none)) else (if 0≤(x526000.length:Int) then (if ((x526000.length:Int):Int).toNat≤35184372088832 then ((some (List.replicate ((x526000.length:Int):Int).toNat 0:List Int)).bind fun y531=>(Qo.l1 k x1 y531 (y531.length:Int) 0)) else (none)) else (none))
def Qo.l1:Nat→List Int→List Int→Int→Int→Option (List Int × Bool)
 |0,_,_,_,_=>none
 |k+1,x1,x8,x57,x58=>if x58<x57 then (Qo.l2 k x1 x8 x58 x57 x58 x1 (x1.length:Int) 0) else (some (x8,true))
def Qo.l2:Nat→List Int→List Int→Int→Int→Int→List Int→Int→Int→Option (List Int × Bool)
 |0,_,_,_,_,_,_,_,_=>none
 |k+1,x1,x8,x9,x57,x58,x61,x62,x63=>if x63<x62 then (if 0≤x63 then (if x63<(x61.length:Int) then ((Qch.f (rd x61 x63) x9).bind fun t535=>(if t535=true then (Qo.l2 k x1 x8 x9 x57 x58 x61 x62 (wrap64 (x63+1))) else (if 0≤x9 then (if x9<(x8.length:Int) then (Qo.l2 k x1 (x8.set (x9:Int).toNat (wrap64 ((rd x8 x9)+1))) x9 x57 x58 x61 x62 (wrap64 (x63+1))) else (none)) else (none)))) else (none)) else (none)) else (Qo.l1 k x1 x8 x57 (wrap64 (x58+1)))
end
def Qo.f (k:Nat) (l0_0:List Int) (l1:List Int):Option (List Int × Bool):=(Qx.f k l0_0).bind fun t526=>(if t526=true then (Qo.j0 k l1 (decide ((l1.length:Int)>20)) l0_0) else (Qo.j0 k l1 true l0_0))
theorem Qo.mono_l: ∀ k,(∀ y0 y1 y2,LeO (Qo.j0 k y0 y1 y2) (Qo.j0 (k+1) y0 y1 y2))∧(∀ y0 y1 y2 y3 y4,LeO (Qo.l0 k y0 y1 y2 y3 y4) (Qo.l0 (k+1) y0 y1 y2 y3 y4))∧(∀ y0 y1 y2 y3,LeO (Qo.l1 k y0 y1 y2 y3) (Qo.l1 (k+1) y0 y1 y2 y3))∧(∀ y0 y1 y2 y3 y4 y5 y6 y7,LeO (Qo.l2 k y0 y1 y2 y3 y4 y5 y6 y7) (Qo.l2 (k+1) y0 y1 y2 y3 y4 y5 y6 y7))
 |0=>⟨fun _ _ _ r h=>by simp [Qo.j0] at h,fun _ _ _ _ _ r h=>by simp [Qo.l0] at h,fun _ _ _ _ r h=>by simp [Qo.l1] at h,fun _ _ _ _ _ _ _ _ r h=>by simp [Qo.l2] at h⟩
 |k+1=>by
  obtain ⟨ih0,ih1,ih2,ih3⟩:=Qo.mono_l k;refine ⟨?_,?_,?_,?_⟩
  all_goals
   intros
   first|unfold Qo.j0|unfold Qo.l0|unfold Qo.l1|unfold Qo.l2
   repeat' (with_reducible first|apply ih0|apply ih1|apply ih2|apply ih3|apply Qx.mono|apply Qbx.mono|exact LeO.refl _|exact LeO.none _|refine LeO.ite ?_ ?_|refine LeO.bind ?_ (fun _=> ?_))
theorem Qo.mono: ∀ a0 a1 k,LeO (Qo.f k a0 a1) (Qo.f (k+1) a0 a1):=by
 intro a0 a1 k;obtain ⟨ih0,ih1,ih2,ih3⟩:=Qo.mono_l k;unfold Qo.f
 repeat' (with_reducible first|apply ih0|apply ih1|apply ih2|apply ih3|apply Qx.mono|apply Qbx.mono|exact LeO.refl _|exact LeO.none _|refine LeO.ite ?_ ?_|refine LeO.bind ?_ (fun _=> ?_))
set_option maxHeartbeats 8000000 in
set_option maxRecDepth 100000 in
theorem Qo.calls (k:Nat) (A0_0:Option Addr) (c0_0:Nat) (l0_0:List Int) (A1:Option Addr) (c1:Nat) (l1:List Int) (r1:List Int) (r2:Bool) (w:World) (hr0_0:Kd.C (Kd.int .i64) w A0_0 l0_0.length l0_0) (hc0_0:l0_0.length≤c0_0) (hr1:Kd.C (Kd.int .i64) w A1 l1.length l1) (hc1:l1.length≤c1) (h:Qo.f k l0_0 l1=some (r1,r2)):
 Calls Try.prog 44 #[.agg #[.slice A0_0 l0_0.length c0_0], .slice A1 l1.length c1] w fun e w'=> ∃ v0_:Value,e= .returned (.tuple #[v0_, .bool r2])∧Kd.R (Kd.int .i64) 3 w' w.heap.size (fun _=>True) v0_ r1∧Below w.heap.size w w':=by
 have hu26:=Try.underlying26;have HR0_0:=Zk hr0_0;have HC0_0:=Zk hc0_0;clear hr0_0 hc0_0;have HR1:=Zk hr1;have HC1:=Zk hc1;clear hr1 hc1;have HB:=Zk (Below.refl w.heap.size w);have H:((Qx.f k l0_0).bind fun t526=>(if t526=true then (Qo.j0 k l1 (decide ((l1.length:Int)>20)) l0_0) else (Qo.j0 k l1 true l0_0)))=some (r1,r2):=h;clear h;have HC3:=Zk H;clear H;go_enter Try.func44,Try.ntmps44;go_upto_region 1 with (first|((with_reducible refine Qb2 (N:=2) rfl ?_);(try (refine Qcx (by rfl) ?_;dsimp only));refine bE (N:=2) (cs:= #[.slice A0_0 l0_0.length c0_0]) (t:=26) ?_;intro gb525 hg w4 hbox hb;have BK525:=Zk (hbox);have GW525:=Zk ((by rw [hg];exact (Qh (uB HB)):w.heap.size≤gb525));have GE525:=GW525;replace HB:=Zk (Qc (uB HB) hb);clear hb hbox hg))
 (try simp only [Act.put,List.setIfInBounds_toArray,List.set_cons_zero,List.set_cons_succ])
 go_cut [19] (fun v19 wc=> ∃ (kq:Nat) (x19_2:Bool),v19= .bool x19_2∧Z0 (Qo.j0 kq l1 x19_2 l0_0=some (r1,r2))∧Z0 (kq≤k)∧Z0 (wc.heap[gb525]? =some (.cells #[(.slice A0_0 l0_0.length c0_0)] 26 (0,0)))∧Z0 (Below w.heap.size w wc))
 case first=>
  have H:=HC3.out;clear HC3;obtain ⟨t526,A5,H⟩:=bs H;(try dsimp only at H)
  by_cases c6:t526=true
  ·
   subst c6;rw [if_pos rfl] at H;have H':=Zk H;clear H;have hcz7_0:=bC BK525;have hfz7_0:=Qg BK525.out 0;go_wp2_with (first|(refine gA (some 13) Try.func88 #[.agg #[.slice A0_0 l0_0.length c0_0]] ?_;(with_reducible refine (Qx.calls k _ _ l0_0 true _ (uD HR0_0 HB) HC0_0.out A5.out).mono ?_);rintro e w8 ⟨rfl,hb⟩;refine ⟨_,rfl,?_⟩;replace BK525:=Zk (Qd (uK BK525) hb);replace HB:=Zk (Qc (vB HB) hb);(try clear hb)))
   go_meet
   case rel=>exact ⟨_,(decide ((l1.length:Int)>20)),(by first|rfl|(simp;done)|(simp [*];done)),H',⟨by first|omega|exact Nat.le_refl _⟩,⟨uK BK525⟩,⟨(vB HB)⟩⟩
  ·
   replace c6:=Bool.eq_false_iff.mpr c6;subst c6;rw [if_neg (show ¬ (false=true) by decide)] at H;have H':=Zk H;clear H;have hcz9_0:=bC BK525;have hfz9_0:=Qg BK525.out 0;go_wp2_with (first|(refine gA (some 13) Try.func88 #[.agg #[.slice A0_0 l0_0.length c0_0]] ?_;(with_reducible refine (Qx.calls k _ _ l0_0 false _ (uD HR0_0 HB) HC0_0.out A5.out).mono ?_);rintro e w10 ⟨rfl,hb⟩;refine ⟨_,rfl,?_⟩;replace BK525:=Zk (Qd (uK BK525) hb);replace HB:=Zk (Qc (vB HB) hb);(try clear hb)))
   go_meet
   case rel=>exact ⟨_,(true),(by first|rfl|(simp;done)|(simp [*];done)),H',⟨by first|omega|exact Nat.le_refl _⟩,⟨uK BK525⟩,⟨(vB HB)⟩⟩
 case rest=>
  clear HC3
  skip
  obtain ⟨kq,x19_2,rfl,HA,HJ2,BK525,HB⟩:=hcut;cases kq with
  |zero=>exact absurd HA.out (by simp [Qo.j0])
  |succ kj2=>
   have H:=HA.out;clear HA;simp only [Qo.j0] at H
   by_cases c11:x19_2=true
   ·
    subst c11;rw [if_pos rfl] at H;simp only [Option.some.injEq,Prod.mk.injEq] at H;obtain ⟨rfl,rfl⟩:=H;go_wp2
    go_ret2
    exact ⟨_,by first|rfl|(simp [Qe,Qf] <;>rfl)|(simp [*,Qe,Qf] <;>rfl),by first|exact Kd.R_nil _ _ _ _ _|exact Kd.N_nil _ _ _ _ _|exact Kd.V_nil _ _ _ _ _|exact Kd.Q_nil _ _ _ _ _|exact Kd.S_nil _ _ _ _ _,(vB HB)⟩
   ·
    replace c11:=Bool.eq_false_iff.mpr c11;subst c11;rw [if_neg (show ¬ (false=true) by decide)] at H;have H':=Zk H;clear H;go_wp2
    go_loopg [22] kj2 (fun kq v22 w'=> ∃ (x22_2:Int),v22= .int .i64 x22_2∧Z0 (Qo.l0 kq l1 l1 (l1.length:Int) x22_2 l0_0=some (r1,r2))∧Z0 (kq≤kj2)∧Z0 (w'.heap[gb525]? =some (.cells #[(.slice A0_0 l0_0.length c0_0)] 26 (0,0)))∧Z0 (Below w.heap.size w w'))
    case atStart=>exact ⟨(0),(by first|rfl|(simp;done)|(simp [*];done)),H',⟨Nat.le_refl _⟩,⟨uK BK525⟩,⟨(vB HB)⟩⟩
    case round=>
     clear H'
     skip
     obtain ⟨x22_2,rfl,HA,HK2,BK525,HB⟩:=hrel;cases gk with
     |zero=>exact absurd HA.out (by simp [Qo.l0])
     |succ k2=>
      have H:=HA.out;clear HA;simp only [Qo.l0] at H
      by_cases c12:x22_2<(l1.length:Int)
      ·
       rw [if_pos c12] at H;have c12b0:=decide_eq_true c12;clear c12
       by_cases c13:0≤x22_2
       ·
        rw [if_pos c13] at H;have c13b0:=decide_eq_true c13;clear c13
        by_cases c14:x22_2<(l1.length:Int)
        ·
         rw [if_pos c14] at H;have c14b0:=decide_eq_true c14;clear c14;obtain ⟨t528,A15,H⟩:=bs H;(try dsimp only at H)
         by_cases c16:t528=true
         ·
          subst c16;rw [if_pos rfl] at H;obtain ⟨t529,A17,H⟩:=bs H;(try dsimp only at H)
          by_cases c18:t529=true
          ·
           subst c18;rw [if_pos rfl] at H
           by_cases c19:x22_2>0
           ·
            rw [if_pos c19] at H;have c19b0:=decide_eq_true c19;clear c19;obtain ⟨ji20,hji20⟩: ∃ j_:Int,(wrap64 (x22_2 - 1))=j_:=⟨_,rfl⟩
            replace H:(if 0≤(ji20) then (if (ji20)<(l1.length:Int) then (if (Go.bits .andNot .i64 (rd l1 (ji20)) (rd l1 x22_2))=0 then (Qo.l0 k2 l1 l1 (l1.length:Int) (wrap64 (x22_2+1)) l0_0) else (some (([] :List Int),false))) else (none)) else (none))=some (r1,r2):=by first|(rw [hji20] at H;exact H)|(simp only [hji20] at H ⊢;exact H)
            (try rw [hji20] at A15)
            (try rw [hji20] at A17)
            have hji20w:(IntKind.i64.wrap (x22_2 - 1))=ji20:=(Qci _).trans hji20
            by_cases c21:0≤(ji20)
            ·
             rw [if_pos c21] at H;have c21b0:=decide_eq_true c21;clear c21
             by_cases c22:(ji20)<(l1.length:Int)
             ·
              rw [if_pos c22] at H;have c22b0:=decide_eq_true c22;clear c22
              by_cases c23:(Go.bits .andNot .i64 (rd l1 (ji20)) (rd l1 x22_2))=0
              ·
               rw [if_pos c23] at H;have c23b0:((Go.bits .andNot .i64 (rd l1 (ji20)) (rd l1 x22_2))==0)=true:=beq_iff_eq.mpr c23;have c23b1:((Go.bits .andNot .i64 (rd l1 (ji20)) (rd l1 x22_2)) !=0)=false:=bne_eq_false_iff_eq.mpr c23;clear c23;have H':=Zk H;clear H;have p527:0≤(x22_2:Int):=of_decide_eq_true (by first|(with_reducible assumption)|assumption);have q527:x22_2<(l1.length:Int):=of_decide_eq_true (by first|(with_reducible assumption)|assumption);obtain ⟨ad527,e527,hx527_0⟩:=Kd.at_int HR1.out x22_2 p527 q527;cases e527;replace hx527_0:=(HB.out.cell (World.block_lt_of_cell? w _ hx527_0)).trans hx527_0;replace p527:=eq_true p527;replace q527:=eq_true q527;have hcz24_0:=bC BK525;have hfz24_0:=Qg BK525.out 0;go_wp2_with (first|(refine gA (some 29) Try.func100 #[.agg #[.slice A0_0 l0_0.length c0_0], .int .i64 (rd l1 x22_2)] ?_;(with_reducible refine (Qdk.calls _ _ l0_0 (rd l1 x22_2) true _ (uD HR0_0 HB) HC0_0.out A15.out).mono ?_);rintro e w25 ⟨rfl,hb⟩;refine ⟨_,rfl,?_⟩;replace BK525:=Zk (Qd (uK BK525) hb);replace HB:=Zk (Qc (vB HB) hb);(try clear hb);have hcz26_0:=bC BK525;have hfz26_0:=Qg BK525.out 0)|(go_at_call 101;(with_reducible refine (Qbx.calls k2 _ _ l0_0 (rd l1 x22_2) true _ (uD HR0_0 HB) HC0_0.out A17.out).mono ?_);rintro e w27 ⟨rfl,hb⟩;replace BK525:=Zk (Qd (uK BK525) hb);replace HB:=Zk (Qc (vB HB) hb);(try clear hb);have p530:0≤((ji20):Int):=of_decide_eq_true (by first|(with_reducible assumption)|assumption);have q530:(ji20)<(l1.length:Int):=of_decide_eq_true (by first|(with_reducible assumption)|assumption);obtain ⟨ad530,e530,hx530_0⟩:=Kd.at_int HR1.out (ji20) p530 q530;obtain rfl:ad527=ad530:=(by injection e530);replace hx530_0:=(HB.out.cell (World.block_lt_of_cell? w _ hx530_0)).trans hx530_0;replace p530:=eq_true p530;replace q530:=eq_true q530));go_roundg k2
               case measure=>have:=HJ2.out;have:=HK2.out;omega
               case rel=>exact ⟨(wrap64 (x22_2+1)),(by first|rfl|(simp;done)|(simp [*];done)),H',⟨by have:=HJ2.out;have:=HK2.out;omega⟩,⟨uK BK525⟩,⟨(vB HB)⟩⟩
              ·
               rw [if_neg c23] at H;have c23b0:((Go.bits .andNot .i64 (rd l1 (ji20)) (rd l1 x22_2))==0)=false:=beq_eq_false_iff_ne.mpr c23;have c23b1:((Go.bits .andNot .i64 (rd l1 (ji20)) (rd l1 x22_2)) !=0)=true:=bne_iff_ne.mpr c23;simp only [Option.some.injEq,Prod.mk.injEq] at H;obtain ⟨rfl,rfl⟩:=H;have p527:0≤(x22_2:Int):=of_decide_eq_true (by first|(with_reducible assumption)|assumption);have q527:x22_2<(l1.length:Int):=of_decide_eq_true (by first|(with_reducible assumption)|assumption);obtain ⟨ad527,e527,hx527_0⟩:=Kd.at_int HR1.out x22_2 p527 q527;cases e527;replace hx527_0:=(HB.out.cell (World.block_lt_of_cell? w _ hx527_0)).trans hx527_0;replace p527:=eq_true p527;replace q527:=eq_true q527;have hcz28_0:=bC BK525;have hfz28_0:=Qg BK525.out 0;go_wp2_with (first|(refine gA (some 29) Try.func100 #[.agg #[.slice A0_0 l0_0.length c0_0], .int .i64 (rd l1 x22_2)] ?_;(with_reducible refine (Qdk.calls _ _ l0_0 (rd l1 x22_2) true _ (uD HR0_0 HB) HC0_0.out A15.out).mono ?_);rintro e w29 ⟨rfl,hb⟩;refine ⟨_,rfl,?_⟩;replace BK525:=Zk (Qd (uK BK525) hb);replace HB:=Zk (Qc (vB HB) hb);(try clear hb);have hcz30_0:=bC BK525;have hfz30_0:=Qg BK525.out 0)|(go_at_call 101;(with_reducible refine (Qbx.calls k2 _ _ l0_0 (rd l1 x22_2) true _ (uD HR0_0 HB) HC0_0.out A17.out).mono ?_);rintro e w31 ⟨rfl,hb⟩;replace BK525:=Zk (Qd (uK BK525) hb);replace HB:=Zk (Qc (vB HB) hb);(try clear hb);have p530:0≤((ji20):Int):=of_decide_eq_true (by first|(with_reducible assumption)|assumption);have q530:(ji20)<(l1.length:Int):=of_decide_eq_true (by first|(with_reducible assumption)|assumption);obtain ⟨ad530,e530,hx530_0⟩:=Kd.at_int HR1.out (ji20) p530 q530;obtain rfl:ad527=ad530:=(by injection e530);replace hx530_0:=(HB.out.cell (World.block_lt_of_cell? w _ hx530_0)).trans hx530_0;replace p530:=eq_true p530;replace q530:=eq_true q530))
               go_ret2
               exact ⟨_,by first|rfl|(simp [Qe,Qf] <;>rfl)|(simp only [←hji20];first|rfl|(simp [Qe,Qf] <;>rfl))|(simp [*,Qe,Qf] <;>rfl),by first|exact Kd.R_nil _ _ _ _ _|exact Kd.N_nil _ _ _ _ _|exact Kd.V_nil _ _ _ _ _|exact Kd.Q_nil _ _ _ _ _|exact Kd.S_nil _ _ _ _ _,(vB HB)⟩
             ·
              rw [if_neg c22] at H;exact absurd H (by simp)
            ·
             rw [if_neg c21] at H;exact absurd H (by simp)
           ·
            rw [if_neg c19] at H;have c19b0:=decide_eq_false c19;clear c19;have H':=Zk H;clear H;have p527:0≤(x22_2:Int):=of_decide_eq_true (by first|(with_reducible assumption)|assumption);have q527:x22_2<(l1.length:Int):=of_decide_eq_true (by first|(with_reducible assumption)|assumption);obtain ⟨ad527,e527,hx527_0⟩:=Kd.at_int HR1.out x22_2 p527 q527;cases e527;replace hx527_0:=(HB.out.cell (World.block_lt_of_cell? w _ hx527_0)).trans hx527_0;replace p527:=eq_true p527;replace q527:=eq_true q527;have hcz32_0:=bC BK525;have hfz32_0:=Qg BK525.out 0;go_wp2_with (first|(refine gA (some 29) Try.func100 #[.agg #[.slice A0_0 l0_0.length c0_0], .int .i64 (rd l1 x22_2)] ?_;(with_reducible refine (Qdk.calls _ _ l0_0 (rd l1 x22_2) true _ (uD HR0_0 HB) HC0_0.out A15.out).mono ?_);rintro e w33 ⟨rfl,hb⟩;refine ⟨_,rfl,?_⟩;replace BK525:=Zk (Qd (uK BK525) hb);replace HB:=Zk (Qc (vB HB) hb);(try clear hb);have hcz34_0:=bC BK525;have hfz34_0:=Qg BK525.out 0)|(go_at_call 101;(with_reducible refine (Qbx.calls k2 _ _ l0_0 (rd l1 x22_2) true _ (uD HR0_0 HB) HC0_0.out A17.out).mono ?_);rintro e w35 ⟨rfl,hb⟩;replace BK525:=Zk (Qd (uK BK525) hb);replace HB:=Zk (Qc (vB HB) hb);(try clear hb)));go_roundg k2
            case measure=>have:=HJ2.out;have:=HK2.out;omega
            case rel=>exact ⟨(wrap64 (x22_2+1)),(by first|rfl|(simp;done)|(simp [*];done)),H',⟨by have:=HJ2.out;have:=HK2.out;omega⟩,⟨uK BK525⟩,⟨(vB HB)⟩⟩
          ·
           replace c18:=Bool.eq_false_iff.mpr c18;subst c18;rw [if_neg (show ¬ (false=true) by decide)] at H;simp only [Option.some.injEq,Prod.mk.injEq] at H;obtain ⟨rfl,rfl⟩:=H;have p527:0≤(x22_2:Int):=of_decide_eq_true (by first|(with_reducible assumption)|assumption);have q527:x22_2<(l1.length:Int):=of_decide_eq_true (by first|(with_reducible assumption)|assumption);obtain ⟨ad527,e527,hx527_0⟩:=Kd.at_int HR1.out x22_2 p527 q527;cases e527;replace hx527_0:=(HB.out.cell (World.block_lt_of_cell? w _ hx527_0)).trans hx527_0;replace p527:=eq_true p527;replace q527:=eq_true q527;have hcz36_0:=bC BK525;have hfz36_0:=Qg BK525.out 0;go_wp2_with (first|(refine gA (some 29) Try.func100 #[.agg #[.slice A0_0 l0_0.length c0_0], .int .i64 (rd l1 x22_2)] ?_;(with_reducible refine (Qdk.calls _ _ l0_0 (rd l1 x22_2) true _ (uD HR0_0 HB) HC0_0.out A15.out).mono ?_);rintro e w37 ⟨rfl,hb⟩;refine ⟨_,rfl,?_⟩;replace BK525:=Zk (Qd (uK BK525) hb);replace HB:=Zk (Qc (vB HB) hb);(try clear hb);have hcz38_0:=bC BK525;have hfz38_0:=Qg BK525.out 0)|(go_at_call 101;(with_reducible refine (Qbx.calls k2 _ _ l0_0 (rd l1 x22_2) false _ (uD HR0_0 HB) HC0_0.out A17.out).mono ?_);rintro e w39 ⟨rfl,hb⟩;replace BK525:=Zk (Qd (uK BK525) hb);replace HB:=Zk (Qc (vB HB) hb);(try clear hb)))
           go_ret2
           exact ⟨_,by first|rfl|(simp [Qe,Qf] <;>rfl)|(simp [*,Qe,Qf] <;>rfl),by first|exact Kd.R_nil _ _ _ _ _|exact Kd.N_nil _ _ _ _ _|exact Kd.V_nil _ _ _ _ _|exact Kd.Q_nil _ _ _ _ _|exact Kd.S_nil _ _ _ _ _,(vB HB)⟩
         ·
          replace c16:=Bool.eq_false_iff.mpr c16;subst c16;rw [if_neg (show ¬ (false=true) by decide)] at H;simp only [Option.some.injEq,Prod.mk.injEq] at H;obtain ⟨rfl,rfl⟩:=H;have p527:0≤(x22_2:Int):=of_decide_eq_true (by first|(with_reducible assumption)|assumption);have q527:x22_2<(l1.length:Int):=of_decide_eq_true (by first|(with_reducible assumption)|assumption);obtain ⟨ad527,e527,hx527_0⟩:=Kd.at_int HR1.out x22_2 p527 q527;cases e527;replace hx527_0:=(HB.out.cell (World.block_lt_of_cell? w _ hx527_0)).trans hx527_0;replace p527:=eq_true p527;replace q527:=eq_true q527;have hcz40_0:=bC BK525;have hfz40_0:=Qg BK525.out 0;go_wp2_with (first|(refine gA (some 29) Try.func100 #[.agg #[.slice A0_0 l0_0.length c0_0], .int .i64 (rd l1 x22_2)] ?_;(with_reducible refine (Qdk.calls _ _ l0_0 (rd l1 x22_2) false _ (uD HR0_0 HB) HC0_0.out A15.out).mono ?_);rintro e w41 ⟨rfl,hb⟩;refine ⟨_,rfl,?_⟩;replace BK525:=Zk (Qd (uK BK525) hb);replace HB:=Zk (Qc (vB HB) hb);(try clear hb)))
          go_ret2
          exact ⟨_,by first|rfl|(simp [Qe,Qf] <;>rfl)|(simp [*,Qe,Qf] <;>rfl),by first|exact Kd.R_nil _ _ _ _ _|exact Kd.N_nil _ _ _ _ _|exact Kd.V_nil _ _ _ _ _|exact Kd.Q_nil _ _ _ _ _|exact Kd.S_nil _ _ _ _ _,(vB HB)⟩
        ·
         rw [if_neg c14] at H;exact absurd H (by simp)
       ·
        rw [if_neg c13] at H;exact absurd H (by simp)
      ·
       rw [if_neg c12] at H;have c12b0:=decide_eq_false c12;clear c12
       by_cases c42:0≤(l0_0.length:Int)
       ·
        rw [if_pos c42] at H;have c42b0:=eq_true c42;have c42b1:=decide_eq_true c42;clear c42
        by_cases c43:((l0_0.length:Int):Int).toNat≤35184372088832
        ·
         rw [if_pos c43] at H;have c43b0:=eq_true c43;have c43b1:=decide_eq_true c43;clear c43;obtain ⟨y531,hy531⟩: ∃ y_:List Int,y_=(List.replicate ((l0_0.length:Int):Int).toNat 0):=⟨_,rfl⟩
         replace H:(Qo.l1 k2 l1 y531 (y531.length:Int) 0)=some (r1,r2):=by first|(rw [hy531];with_reducible exact H)|(have H2_:=(Option.bind_some _ _).symm.trans H;rw [hy531];with_reducible exact H2_)|(have H2_:=(Option.bind_some _ _).symm.trans H;with_reducible exact H2_)|with_reducible exact H|(rw [hy531];exact H)|exact H
         have Ny531:=Zk hy531;clear hy531;have H':=Zk H;clear H;have hcz44_0:=bC BK525;have hfz44_0:=Qg BK525.out 0;go_wp2_with (first|((with_reducible refine Qb2 (N:=55) rfl ?_);(try (refine Qcx (by rfl) ?_;dsimp only));refine Kd.R_make (Kd.int .i64) _ 3 rfl (N:=55) rfl 24 _ _ rfl (l0_0.length:Int) rfl rfl Try.underlying24 (.int .i64 0) 8 Qed rfl (by decide) (by omega) 0 (ok:=fun _=>True) (okp:=fun _=>True) rfl (fun _ hk=>hk) trivial (of_decide_eq_true (by first|(with_reducible assumption)|assumption)) (Nat.le_trans (Nat.mul_le_mul_right _ (of_decide_eq_true (by first|(with_reducible assumption)|assumption):(l0_0.length:Int).toNat≤35184372088832)) (by omega)) (Below.refl _ _) (Nat.le_refl _) ?_;intro v532 w45 ho46 hb hg_ hnew_;clear hg_ hnew_;(first|rw [←Ny531.out] at ho46|(simp only [Int.reduceToNat] at ho46;rw [←Ny531.out] at ho46));have HO533:=Zk (Kd.R_lower ho46 (Qh (vB HB)));replace BK525:=Zk (Qd (uK BK525) hb);replace HB:=Zk (Qc (vB HB) hb);clear hb ho46;obtain ⟨Ao47,co47,eo47⟩:=Kd.R_slice HO533.out;subst eo47))
         go_loopg [58] k2 (fun kq v58 w'=> ∃ (x8_3:List Int) (x58_3:Int),v58= .int .i64 x58_3∧Z0 (Qo.l1 kq l1 x8_3 (y531.length:Int) x58_3=some (r1,r2))∧Z0 (kq≤k2)∧Z0 (Kd.R (Kd.int .i64) 3 w' w.heap.size (fun _=>True) (.slice Ao47 y531.length co47) x8_3)∧Z0 (w'.heap[gb525]? =some (.cells #[(.slice A0_0 l0_0.length c0_0)] 26 (0,0)))∧Z0 (Below w.heap.size w w'))
         case atStart=>exact ⟨(y531),(0),(by first|rfl|(simp;done)|(simp [*];done)),H',⟨Nat.le_refl _⟩,⟨uR HO533⟩,⟨uK BK525⟩,⟨(vB HB)⟩⟩
         case round=>
          clear H'
          try clear c12b0 c42b0 c42b1 c43b0 c43b1 hcz44_0 hfz44_0
          obtain ⟨x8_3,x58_3,rfl,HA,HK3,HO_8,BK525,HB⟩:=hrel;have hl8_3:=(Kd.R_reads' HO_8.out).1;rw [hl8_3] at HO_8
          (try simp only [hl8_3])
          (try simp only [hl8_3] at BK525)
          cases gk with
          |zero=>exact absurd HA.out (by simp [Qo.l1])
          |succ k3=>
           have H:=HA.out;clear HA;simp only [Qo.l1] at H
           by_cases c48:x58_3<(y531.length:Int)
           ·
            rw [if_pos c48] at H;have c48b0:=decide_eq_true c48
            (try simp only [hl8_3] at c48b0)
            clear c48;have H':=Zk H;clear H;go_wp2
            go_loopg [63] k3 (fun kq v63 w'=> ∃ (x8_4:List Int) (x63_4:Int),v63= .int .i64 x63_4∧Z0 (Qo.l2 kq l1 x8_4 x58_3 (y531.length:Int) x58_3 l1 (l1.length:Int) x63_4=some (r1,r2))∧Z0 (kq≤k3)∧Z0 (Kd.R (Kd.int .i64) 3 w' w.heap.size (fun _=>True) (.slice Ao47 x8_3.length co47) x8_4)∧Z0 (w'.heap[gb525]? =some (.cells #[(.slice A0_0 l0_0.length c0_0)] 26 (0,0)))∧Z0 (Below w.heap.size w w'))
            case atStart=>exact ⟨(x8_3),(0),(by first|rfl|(simp;done)|(simp [*];done)),H',⟨Nat.le_refl _⟩,⟨by (try simp only [hl8_3]);(with_reducible repeat (first|apply Kd.R_alloc|apply Kd.R_drewN|apply Kd.R_drew));exact HO_8.out⟩,⟨by (try simp only [hl8_3]);(with_reducible repeat (first|refine Qbp ?_ _|refine Qbj ?_|refine Qbk ?_ _));exact BK525.out⟩,⟨(vB HB)⟩⟩
            case round=>
             clear H'
             try clear c48b0
             obtain ⟨x8_4,x63_4,rfl,HA,HK4,HO_8,BK525,HB⟩:=hrel;have hl8_4:=(Kd.R_reads' HO_8.out).1;rw [hl8_4] at HO_8
             (try simp only [hl8_4])
             (try simp only [hl8_4] at BK525)
             cases gk with
             |zero=>exact absurd HA.out (by simp [Qo.l2])
             |succ k4=>
              have H:=HA.out;clear HA;simp only [Qo.l2] at H
              by_cases c49:x63_4<(l1.length:Int)
              ·
               rw [if_pos c49] at H;have c49b0:=decide_eq_true c49
               (try simp only [hl8_3] at c49b0)
               (try simp only [hl8_4] at c49b0)
               clear c49
               by_cases c50:0≤x63_4
               ·
                rw [if_pos c50] at H;have c50b0:=decide_eq_true c50;clear c50
                by_cases c51:x63_4<(l1.length:Int)
                ·
                 rw [if_pos c51] at H;have c51b0:=decide_eq_true c51
                 (try simp only [hl8_3] at c51b0)
                 (try simp only [hl8_4] at c51b0)
                 clear c51;obtain ⟨t535,A52,H⟩:=bs H;(try dsimp only at H)
                 by_cases c53:t535=true
                 ·
                  subst c53;rw [if_pos rfl] at H;have H':=Zk H;clear H;have p534:0≤(x63_4:Int):=of_decide_eq_true (by first|(with_reducible assumption)|assumption);have q534:x63_4<(l1.length:Int):=of_decide_eq_true (by first|(with_reducible assumption)|assumption);obtain ⟨ad534,e534,hx534_0⟩:=Kd.at_int HR1.out x63_4 p534 q534;cases e534;replace hx534_0:=(HB.out.cell (World.block_lt_of_cell? w _ hx534_0)).trans hx534_0;replace p534:=eq_true p534;replace q534:=eq_true q534;go_wp2_with (first|(refine gA (some 69) Try.func59 #[.int .i64 (rd l1 x63_4), .int .i64 x58_3] ?_;(with_reducible refine (Qch.calls (rd l1 x63_4) x58_3 true _ A52.out).mono ?_);rintro e w' ⟨rfl,⟨nd,rfl⟩⟩;refine ⟨_,rfl,?_⟩))
                  (try simp only [←hl8_4])
                  go_roundg k4
                  case measure=>have:=HJ2.out;have:=HK2.out;have:=HK3.out;have:=HK4.out;omega
                  case rel=>exact ⟨(x8_4),(wrap64 (x63_4+1)),(by first|rfl|(simp;done)|(simp [*];done)),H',⟨by have:=HJ2.out;have:=HK2.out;have:=HK3.out;have:=HK4.out;omega⟩,⟨by (try simp only [hl8_3]);(try simp only [hl8_4]);(with_reducible repeat (first|apply Kd.R_alloc|apply Kd.R_drewN|apply Kd.R_drew));exact HO_8.out⟩,⟨by (try simp only [hl8_3]);(try simp only [hl8_4]);(with_reducible repeat (first|refine Qbp ?_ _|refine Qbj ?_|refine Qbk ?_ _));exact BK525.out⟩,⟨(vB HB)⟩⟩
                 ·
                  replace c53:=Bool.eq_false_iff.mpr c53;subst c53;rw [if_neg (show ¬ (false=true) by decide)] at H
                  by_cases c54:0≤x58_3
                  ·
                   rw [if_pos c54] at H;have c54b0:=decide_eq_true c54;clear c54
                   by_cases c55:x58_3<(x8_4.length:Int)
                   ·
                    rw [if_pos c55] at H;have c55b0:=decide_eq_true c55;clear c55;obtain ⟨y537,hy537⟩: ∃ y_:List Int,y_=(x8_4.set (x58_3:Int).toNat (wrap64 ((rd x8_4 x58_3)+1))):=⟨_,rfl⟩
                    replace H:(Qo.l2 k4 l1 y537 x58_3 (y531.length:Int) x58_3 l1 (l1.length:Int) (wrap64 (x63_4+1)))=some (r1,r2):=by first|(rw [hy537];with_reducible exact H)|(have H2_:=(Option.bind_some _ _).symm.trans H;rw [hy537];with_reducible exact H2_)|(have H2_:=(Option.bind_some _ _).symm.trans H;with_reducible exact H2_)|with_reducible exact H|(rw [hy537];exact H)|exact H
                    have Ny537:=Zk hy537;clear hy537;have H':=Zk H;clear H;have p534:0≤(x63_4:Int):=of_decide_eq_true (by first|(with_reducible assumption)|assumption);have q534:x63_4<(l1.length:Int):=of_decide_eq_true (by first|(with_reducible assumption)|assumption);obtain ⟨ad534,e534,hx534_0⟩:=Kd.at_int HR1.out x63_4 p534 q534;cases e534;replace hx534_0:=(HB.out.cell (World.block_lt_of_cell? w _ hx534_0)).trans hx534_0;replace p534:=eq_true p534;replace q534:=eq_true q534;go_wp2_with (first|(refine gA (some 69) Try.func59 #[.int .i64 (rd l1 x63_4), .int .i64 x58_3] ?_;(with_reducible refine (Qch.calls (rd l1 x63_4) x58_3 false _ A52.out).mono ?_);rintro e w' ⟨rfl,⟨nd,rfl⟩⟩;refine ⟨_,rfl,?_⟩;(try (rw [Qes wr];generalize hq_:World.drewN wr _=wr;have n0_:Z0 (Kd.R (Kd.int .i64) 3 wr w.heap.size (fun _=>True) (.slice Ao47 x8_4.length co47) x8_4):=⟨by rw [←hq_];exact (uR HO_8)⟩;have n1_:Z0 (wr.heap[gb525]? =some (.cells #[.slice A0_0 l0_0.length c0_0] 26 (0,0))):=⟨by rw [←hq_];exact (uK BK525)⟩;have n2_:Z0 (Below w.heap.size w wr):=⟨by rw [←hq_];exact (vB HB)⟩;clear HO_8 BK525 HB hq_;have HO_8:=n0_;have BK525:=n1_;have HB:=n2_;clear n0_ n1_ n2_));have p536:0≤(x58_3:Int):=of_decide_eq_true (by first|(with_reducible assumption)|assumption);have q536:x58_3<(x8_4.length:Int):=of_decide_eq_true (by first|(with_reducible assumption)|assumption);obtain ⟨ad536,e536,hx536_0⟩:=Kd.at_int (Kd.R_reads' HO_8.out).2.2 x58_3 p536 q536;cases e536;replace p536:=eq_true p536;replace q536:=eq_true q536;have p56:0≤(x58_3:Int):=of_decide_eq_true (by first|(with_reducible assumption)|assumption);have q56:(x58_3:Int)<((x8_4.length:Int):Int):=of_decide_eq_true (by first|(with_reducible assumption)|assumption);obtain ⟨go56,co56,eo56,gb56,gl56,cl56,HG56⟩:=Kd.R_form HO_8.out (by omega);(first|cases eo56|(injection eo56 with ea_ en_ ec_;(first|subst ea_|(injection ea_ with ea_;subst ea_));subst ec_;clear en_));have GB56:=Zk gb56;have GG56:=Zk HG56;clear gb56 gl56 HG56;(first|simp only [Qeu] at hx536_0|skip);obtain ⟨hx56_0,hf56_0⟩:=Kd.R_celln 0 HO_8.out (x58_3:Int) p56 q56;replace p56:=eq_true p56;replace q56:=eq_true q56;obtain ⟨hy57_,hz57_⟩:=Kd.R_celln 0 HO_8.out (x58_3:Int) (of_decide_eq_true (by first|(with_reducible assumption)|assumption)) (of_decide_eq_true (by first|(with_reducible assumption)|assumption));have HP57:=Kd.R_putg HO_8.out (x58_3:Int) (wrap64 ((rd x8_4 x58_3)+1)))|((with_reducible refine Qf9 (t:=3) (p:=76) rfl ?_);refine Qfv (t:=3) (p:=76) (v:= ?vo_w58) (w1:=(wr.setCell ⟨go56,(x58_3:Int).toNat,none⟩ (.int .i64 (wrap64 ((rd x8_4 x58_3)+1))))) ?hg ?ho ?hn ?hr ?_;(case ho=>rfl);(case hg=>rfl);(case hn=>rfl);(case hr=>first|(go_simp;done)|(go_simp;rfl));intro w58 hw;have hg:wr.grownBy w58 (some go56):=(by rw [hw];exact HP57.2);have hp_:Kd.R (Kd.int .i64) 3 w58 w.heap.size (fun _=>True) (.slice (some ⟨go56,0,none⟩) x8_4.length co47) y537:=(by rw [hw,Ny537.out];exact HP57.1);clear HP57;replace BK525:=Zk (Qb8 (uK BK525) hg (Kd.R_ne HO_8.out BK525.out (by decide)));replace HO_8:=Zk (hp_);replace HB:=Zk ((by rw [hw];exact Q1 (HB.out) GB56.out:Below w.heap.size w w58));clear hg hw hp_))
                    (try simp only [←hl8_4])
                    go_roundg k4
                    case measure=>have:=HJ2.out;have:=HK2.out;have:=HK3.out;have:=HK4.out;omega
                    case rel=>exact ⟨(y537),(wrap64 (x63_4+1)),(by first|rfl|(simp;done)|(simp [*];done)),H',⟨by have:=HJ2.out;have:=HK2.out;have:=HK3.out;have:=HK4.out;omega⟩,⟨by (try simp only [hl8_3]);(try simp only [hl8_4]);(with_reducible repeat (first|apply Kd.R_alloc|apply Kd.R_drewN|apply Kd.R_drew));exact HO_8.out⟩,⟨by (try simp only [hl8_3]);(try simp only [hl8_4]);(with_reducible repeat (first|refine Qbp ?_ _|refine Qbj ?_|refine Qbk ?_ _));exact BK525.out⟩,⟨(vB HB)⟩⟩
                   ·
                    rw [if_neg c55] at H;exact absurd H (by simp)
                  ·
                   rw [if_neg c54] at H;exact absurd H (by simp)
                ·
                 rw [if_neg c51] at H;exact absurd H (by simp)
               ·
                rw [if_neg c50] at H;exact absurd H (by simp)
              ·
               rw [if_neg c49] at H;have c49b0:=decide_eq_false c49
               (try simp only [hl8_3] at c49b0)
               (try simp only [hl8_4] at c49b0)
               clear c49;have H':=Zk H;clear H;go_wp2
               (try simp only [←hl8_3,←hl8_4])
               go_roundg k4
               case measure=>have:=HJ2.out;have:=HK2.out;have:=HK3.out;have:=HK4.out;omega
               case rel=>exact ⟨(x8_4),(wrap64 (x58_3+1)),(by first|rfl|(simp;done)|(simp [*];done)),H',⟨by have:=HJ2.out;have:=HK2.out;have:=HK3.out;have:=HK4.out;omega⟩,⟨by (try simp only [hl8_3]);(try simp only [hl8_4]);(with_reducible repeat (first|apply Kd.R_alloc|apply Kd.R_drewN|apply Kd.R_drew));exact HO_8.out⟩,⟨by (try simp only [hl8_3]);(try simp only [hl8_4]);(with_reducible repeat (first|refine Qbp ?_ _|refine Qbj ?_|refine Qbk ?_ _));exact BK525.out⟩,⟨(vB HB)⟩⟩
           ·
            rw [if_neg c48] at H;have c48b0:=decide_eq_false c48
            (try simp only [hl8_3] at c48b0)
            clear c48;simp only [Option.some.injEq,Prod.mk.injEq] at H;obtain ⟨rfl,rfl⟩:=H;go_wp2
            go_ret2
            exact ⟨_,by first|rfl|(simp [Qe,Qf] <;>rfl)|(simp [*,Qe,Qf] <;>rfl),uR HO_8,(vB HB)⟩
        ·
         rw [if_neg c43] at H;exact absurd H (by simp)
       ·
        rw [if_neg c42] at H;exact absurd H (by simp)
def Qdl.f (s0_0:List Int) (s0_1:Int) (s0_2:Int) (a1:Int):Option (Bool × Int × Int):=(Qm.f s0_0 s0_1 s0_2 a1).bind fun bt538=>(some ((bt538.1==0),bt538.2.1,bt538.2.2))
set_option maxHeartbeats 8000000 in
set_option maxRecDepth 100000 in
theorem Qdl.calls (g:Nat) (s0_0:List Int) (s0_1:Int) (s0_2:Int) (a1:Int) (r1:Bool) (r2:Int) (r3:Int) (w0 w:World) (hI:Qa w0 w g s0_0 s0_1 s0_2) (hB:Below w0.heap.size w0 w) (h:Qdl.f s0_0 s0_1 s0_2 a1=some (r1,r2,r3)):
 Calls Try.prog 56 #[.pointer (some ⟨g,0,none⟩), .int .i64 a1] w fun e w'=>e= .returned (.bool r1)∧Qa w0 w' g s0_0 r2 r3∧Below w0.heap.size w0 w'∧Qj w w' g none:=by
 have HI0:=Zk hI;have HK:=Zk (Qj.refl w g none);have HL:=Zk hB.size;clear hI;have HW0:=Zk hB.size;have HB:=Zk hB;clear hB;have H:((Qm.f s0_0 s0_1 s0_2 a1).bind fun bt538=>(some ((bt538.1==0),bt538.2.1,bt538.2.2)))=some (r1,r2,r3):=h;clear h;obtain ⟨⟨t538,t539,t540⟩,A3,H⟩:=bs H;(try dsimp only at H)
 simp only [Option.some.injEq,Prod.mk.injEq] at H;obtain ⟨rfl,rfl,rfl⟩:=H;go_enter Try.func56,Try.ntmps56;go_wp2_with (first|(refine gA (some 7) Try.func58 #[.pointer (some ⟨g,0,none⟩), .int .i64 a1] ?_;(with_reducible refine (Qm.calls g s0_0 s0_1 s0_2 a1 t538 t539 t540 w0 _ (Qa.vI HI0) (Qa.vB HB) A3.out).mono ?_);rintro e w4 ⟨rfl,hi,hb,hk⟩;refine ⟨_,rfl,?_⟩;replace HK:=Zk (Qj.trans (vK HK) hk (.inl rfl));replace HB:=Zk (hb);replace HI0:=Zk (hi);(try clear hb hk hi)))
 go_ret
 exact ⟨by first|rfl|(simp [Qe,Qf] <;>rfl)|(simp [*,Qe,Qf] <;>rfl),(Qa.vI HI0),(Qa.vB HB),(vK HK)⟩
def Qcq.f (s0_0:List Int) (s0_1:Int) (s0_2:Int) (l1_0:List Int):Option (Int × Int × Int):=(Qc2.f (l1_0.length:Int) 12).bind fun t542=>((Qm.f s0_0 s0_1 s0_2 256).bind fun bt543=>((Qm.f s0_0 bt543.2.1 bt543.2.2 16).bind fun bt546=>(if 0≤t542 then ((Qdl.f s0_0 bt546.2.1 bt546.2.2 12).bind fun bt549=>(if bt549.1=true then ((Qbh.f s0_0 bt549.2.1 bt549.2.2 (([(-1),shl .i64 1 t542,0,wrap64 ((shl .i64 1 t542) - 1),4611686018427387904] :List Int))).bind fun bt555=>(some (bt555.1,bt555.2.1,bt555.2.2))) else (some (Go.bits .and .i64 (wrap64 (bt543.1+(wrap64 (256*bt546.1)))) (wrap64 ((shl .i64 1 t542) - 1)),bt549.2.1,bt549.2.2)))) else (none))))
def Qcq.T5:Bool × List (List Nat × List Nat):=(true,[([],[]),([],[]),([1],[1]),([],[]),([3],[3]),([4],[4]),([2,5],[2,5]),([0,6],[0,6]),([7,7,0,1,2,3,4,5,6,7],[7])])
def Qcq.B5:List Nat:= [0,0,2,0,8,24,62,127,255]
theorem Qcq.tab5:rtab .any (Qfx Try.f126 5)=Qcq.T5:=by kernel_rfl
theorem Qcq.bits5:Qem Qcq.T5.2 Qcq.B5=true:=by kernel_rfl
set_option maxHeartbeats 8000000 in
set_option maxRecDepth 100000 in
theorem Qcq.calls (g:Nat) (s0_0:List Int) (s0_1:Int) (s0_2:Int) (A1_0:Option Addr) (c1_0:Nat) (l1_0:List Int) (r1:Int) (r2:Int) (r3:Int) (w0 w:World) (hI:Qa w0 w g s0_0 s0_1 s0_2) (hB:Below w0.heap.size w0 w) (hr1_0:Kd.C (Kd.int .i64) w A1_0 l1_0.length l1_0) (hc1_0:l1_0.length≤c1_0) (hf1_0: ∀ ad,A1_0=some ad→0<l1_0.length→ad.block≠g) (h:Qcq.f s0_0 s0_1 s0_2 l1_0=some (r1,r2,r3)):
 Calls Try.prog 126 #[.pointer (some ⟨g,0,none⟩), .agg #[.slice A1_0 l1_0.length c1_0]] w fun e w'=>e= .returned (.int .i64 r1)∧Qa w0 w' g s0_0 r2 r3∧Below w0.heap.size w0 w'∧Qj w w' g none:=by
 have hu26:=Try.underlying26;have HR1_0:=Zk hr1_0;have HC1_0:=Zk hc1_0;clear hr1_0 hc1_0;have HI0:=Zk hI;have HK:=Zk (Qj.refl w g none);have HL:=Zk hB.size;clear hI;have HW0:=Zk hB.size;have HB:=Zk hB;clear hB;have H:((Qc2.f (l1_0.length:Int) 12).bind fun t542=>((Qm.f s0_0 s0_1 s0_2 256).bind fun bt543=>((Qm.f s0_0 bt543.2.1 bt543.2.2 16).bind fun bt546=>(if 0≤t542 then ((Qdl.f s0_0 bt546.2.1 bt546.2.2 12).bind fun bt549=>(if bt549.1=true then ((Qbh.f s0_0 bt549.2.1 bt549.2.2 (([(-1),shl .i64 1 t542,0,wrap64 ((shl .i64 1 t542) - 1),4611686018427387904] :List Int))).bind fun bt555=>(some (bt555.1,bt555.2.1,bt555.2.2))) else (some (Go.bits .and .i64 (wrap64 (bt543.1+(wrap64 (256*bt546.1)))) (wrap64 ((shl .i64 1 t542) - 1)),bt549.2.1,bt549.2.2)))) else (none)))))=some (r1,r2,r3):=h;clear h;obtain ⟨t542,A3,H⟩:=bs H;(try dsimp only at H)
 obtain ⟨⟨t543,t544,t545⟩,A4,H⟩:=bs H;(try dsimp only at H)
 obtain ⟨⟨t546,t547,t548⟩,A5,H⟩:=bs H;(try dsimp only at H)
 by_cases c6:0≤t542
 ·
  rw [if_pos c6] at H;have c6b0:=eq_true c6;have c6b1:=decide_eq_true c6;clear c6;obtain ⟨ji7,hji7⟩: ∃ j_:Int,(shl .i64 1 t542)=j_:=⟨_,rfl⟩
  replace H:((Qdl.f s0_0 t547 t548 12).bind fun bt549=>(if bt549.1=true then ((Qbh.f s0_0 bt549.2.1 bt549.2.2 (([(-1),ji7,0,wrap64 ((ji7) - 1),4611686018427387904] :List Int))).bind fun bt555=>(some (bt555.1,bt555.2.1,bt555.2.2))) else (some (Go.bits .and .i64 (wrap64 (t543+(wrap64 (256*t546)))) (wrap64 ((ji7) - 1)),bt549.2.1,bt549.2.2))))=some (r1,r2,r3):=by first|(rw [hji7] at H;exact H)|(simp only [hji7] at H ⊢;exact H)
  (try rw [hji7] at A3)
  (try rw [hji7] at A4)
  (try rw [hji7] at A5)
  have hji7_:(IntKind.i64.wrap (1*2 ^ min t542.toNat 64))=ji7:=hji7;have hji7z:t542≤64→(IntKind.i64.wrap (1*2 ^ t542.toNat))=ji7:=Qeb hji7;have hji7u:(IntKind.i64.wrap (2 ^ min t542.toNat 64))=ji7:=by have h_:=hji7_;rw [Int.one_mul] at h_;exact h_
  have hji7v:t542≤64→(IntKind.i64.wrap (2 ^ t542.toNat))=ji7:=fun hle_=>by have h_:=hji7z hle_;rw [Int.one_mul] at h_;exact h_
  have hji7y:(wrap64 (1*2 ^ min t542.toNat 64))=ji7:=(Qci _).symm.trans hji7_;have hji7x:t542≤64→(wrap64 (1*2 ^ t542.toNat))=ji7:=fun h_=>(Qci _).symm.trans (hji7z h_)
  obtain ⟨⟨t549,t550,t551⟩,A8,H⟩:=bs H;(try dsimp only at H)
  by_cases c9:t549=true
  ·
   subst c9;rw [if_pos rfl] at H;have c10b0:=eq_true (of_decide_eq_true (by first|(with_reducible assumption)|assumption):0≤t542);have c11b0:=eq_true (of_decide_eq_true (by first|(with_reducible assumption)|assumption):0≤t542);obtain ⟨y552,hy552⟩: ∃ y_:List Int,y_=(([(-1),ji7,0,wrap64 ((ji7) - 1),4611686018427387904] :List Int)):=⟨_,rfl⟩
   replace H:((Qbh.f s0_0 t550 t551 y552).bind fun bt555=>(some (bt555.1,bt555.2.1,bt555.2.2)))=some (r1,r2,r3):=by first|(rw [hy552];with_reducible exact H)|(have H2_:=(Option.bind_some _ _).symm.trans H;rw [hy552];with_reducible exact H2_)|(have H2_:=(Option.bind_some _ _).symm.trans H;with_reducible exact H2_)|with_reducible exact H|(rw [hy552];exact H)|exact H
   have Ny552:=Zk hy552;clear hy552;obtain ⟨⟨t555,t556,t557⟩,A12,H⟩:=bs H;(try dsimp only at H)
   simp only [Option.some.injEq,Prod.mk.injEq] at H;obtain ⟨rfl,rfl,rfl⟩:=H;go_enter Try.func126,Try.ntmps126
   try go_wp2_with (first|(refine bE (N:=3) (cs:= #[.slice A1_0 l1_0.length c1_0]) (t:=26) ?_;intro gb541 hg w13 hbox hb;replace HB:=Zk (Qc (Qa.vB HB) hb);have BK541:=Zk (hbox);have GW541:=Zk ((by rw [hg];exact (Qbs (w:=w) (g:=g) (row:=none) (vK HK)):w.heap.size≤gb541));have GE541:=Zk ((Nat.le_trans HW0.out (by rw [hg];exact (Qbs (w:=w) (g:=g) (row:=none) (vK HK)):w.heap.size≤gb541):w0.heap.size≤gb541));replace HK:=Zk (Qj.trans (vK HK) (Qj.of_below hb g none) (.inl rfl));have NB0_541:=Zk ((by rw [hg];exact Nat.ne_of_lt (Qa.lt (show Qa w0 _ g s0_0 s0_1 s0_2 from (Qa.vI HI0))):g≠gb541));have NB541_0:=Zk ((by rw [hg];exact Nat.ne_of_gt (Qa.lt (show Qa w0 _ g s0_0 s0_1 s0_2 from (Qa.vI HI0))):gb541≠g));replace HI0:=Zk (Qa.below (Qa.vI HI0) hb);clear hb hbox hg;have hnb14:=NB541_0.out;have hnc14:=NB0_541.out;have hcz15_0:=bC BK541;have hfz15_0:=Qg BK541.out 0)|(refine gA (some 10) Try.func115 #[.int .i64 (l1_0.length:Int), .int .i64 12] ?_;(with_reducible refine (Qc2.calls (l1_0.length:Int) 12 t542 _ A3.out).mono ?_);rintro e w' ⟨rfl,⟨nd,rfl⟩⟩;refine ⟨_,rfl,?_⟩)|(refine gA (some 12) Try.func58 #[.pointer (some ⟨g,0,none⟩), .int .i64 256] ?_;(with_reducible refine (Qm.calls g s0_0 s0_1 s0_2 256 t543 t544 t545 w0 _ (Qa.vI HI0) (Qa.vB HB) A4.out).mono ?_);rintro e w16 ⟨rfl,hi,hb,hk⟩;refine ⟨_,rfl,?_⟩;replace BK541:=Zk (Qj.blk hk (g':=gb541) (o:= .cells #[.slice A1_0 l1_0.length c1_0] 26 (0,0)) (uK BK541) NB541_0.out (by simp));replace HK:=Zk (Qj.trans (vK HK) hk (.inl rfl));replace HB:=Zk (hb);replace HI0:=Zk (hi);(try clear hb hk hi))|(refine gA (some 14) Try.func58 #[.pointer (some ⟨g,0,none⟩), .int .i64 16] ?_;(with_reducible refine (Qm.calls g s0_0 t544 t545 16 t546 t547 t548 w0 _ (Qa.vI HI0) (Qa.vB HB) A5.out).mono ?_);rintro e w17 ⟨rfl,hi,hb,hk⟩;refine ⟨_,rfl,?_⟩;replace BK541:=Zk (Qj.blk hk (g':=gb541) (o:= .cells #[.slice A1_0 l1_0.length c1_0] 26 (0,0)) (uK BK541) NB541_0.out (by simp));replace HK:=Zk (Qj.trans (vK HK) hk (.inl rfl));replace HB:=Zk (hb);replace HI0:=Zk (hi);(try clear hb hk hi))|(refine gA (some 23) Try.func56 #[.pointer (some ⟨g,0,none⟩), .int .i64 12] ?_;(with_reducible refine (Qdl.calls g s0_0 t547 t548 12 true t550 t551 w0 _ (Qa.vI HI0) (Qa.vB HB) A8.out).mono ?_);rintro e w18 ⟨rfl,hi,hb,hk⟩;refine ⟨_,rfl,?_⟩;replace BK541:=Zk (Qj.blk hk (g':=gb541) (o:= .cells #[.slice A1_0 l1_0.length c1_0] 26 (0,0)) (uK BK541) NB541_0.out (by simp));replace HK:=Zk (Qj.trans (vK HK) hk (.inl rfl));replace HB:=Zk (hb);replace HI0:=Zk (hi);(try clear hb hk hi)))
   replace BK541:=Zk (Qbj BK541.out);replace HI0:=Zk (Qa.drew HI0.out);replace HK:=Zk (Qfc HK.out);replace HB:=Zk (Qbb HB.out);refine sU (n:=9) (S:=fun w'=>True) (ds:= []) trivial (fun hHeld=> ?_);refine Qe5 Qcq.tab5 Qcq.bits5 (fun HT_ HW_=> ?_);generalize w18.drew=w19 at BK541 HI0 HK HB hHeld ⊢;refine pU 0 24 ?_;refine pU 1 25 ?_;refine pU 2 26 ?_;refine pU 3 27 ?_;refine pU 4 28 ?_;refine pU 5 29 ?_;refine oU 6 (some 30) fun K hK=> ?_
   refine Kd.R_lit_step (Kd.int .i64) _ 3 ?hg (N:=30) ?hd (xs:=([(-1),ji7,0,wrap64 ((ji7) - 1),4611686018427387904] :List Int)) (inner:= [.int .i64 (-1), .int .i64 ji7, .int .i64 0, .int .i64 (wrap64 ((ji7) - 1)), .int .i64 4611686018427387904]) (ok:=fun _=>True) (okp:=fun _=>True) ?hr ?hp (fun _ hk=>hk) trivial (Below.refl _ _) (Nat.le_refl _) (by simp) ?_;(case hd=>rfl);(case hg=>rfl);(case hr=>first|(go_simp;done)|(go_simp;rfl));(case hp=>exact (Reps.one (show Kd.M (Kd.int .i64) _ _ _ (-1) [.int .i64 (-1)] from rfl) (Reps.one (show Kd.M (Kd.int .i64) _ _ _ ji7 [.int .i64 ji7] from rfl) (Reps.one (show Kd.M (Kd.int .i64) _ _ _ 0 [.int .i64 0] from rfl) (Reps.one (show Kd.M (Kd.int .i64) _ _ _ (wrap64 ((ji7) - 1)) [.int .i64 (wrap64 ((ji7) - 1))] from rfl) (Reps.one (show Kd.M (Kd.int .i64) _ _ _ 4611686018427387904 [.int .i64 4611686018427387904] from rfl) (Reps.none _ _)))))))
   intro v553 w20 ho21 hb hg_ hnew_;clear hg_ hnew_
   (first|rw [←Ny552.out] at ho21|(simp only [Int.reduceToNat] at ho21;rw [←Ny552.out] at ho21))
   have HO554:=Zk (Kd.R_lower ho21 (Qbs (w:=w) (g:=g) (row:=none) (vK HK)));replace HI0:=Zk (Qa.below (Qa.vI HI0) hb);replace BK541:=Zk (Qd (uK BK541) hb);replace HK:=Zk (Qj.trans (vK HK) (Qj.of_below hb g none) (.inl rfl));replace HB:=Zk (Qc (Qa.vB HB) hb);clear hb ho21;obtain ⟨Ao22,co22,eo22⟩:=Kd.R_slice HO554.out
   (first|subst eo22|(injection eo22 with f1_ f2_ f3_;have f4_:=f1_.symm;have f5_:=f3_.symm;clear f1_ f2_ f3_;subst f4_;subst f5_))
   refine hK.out _ _ trivial (fun hHeld=> ?_);clear hK K;refine nU 30 ?_;refine oU 7 (some 31) fun K hK=> ?_
   refine Qfe Try.func94 (by kernel_rfl) rfl #[.pointer (some ⟨g,0,none⟩), .slice Ao22 y552.length co22] (by rfl) rfl rfl (by (try simp only [List.map_toArray,List.map_cons,List.map_nil]);first|done|rfl|(simp only [List.length_drop,List.length_take];rfl)) ?_
   with_reducible refine (Qbh.calls g s0_0 t550 t551 _ _ y552 t555 t556 t557 w0 _ ?side1 ?side2 ?side3 ?side4 ?side5 A12.out).mono ?_
   (case side1=>repeat (first|(with_reducible first|exact HI0.out|apply Qa.alloc|apply Qa.drewN|apply Qa.drew|apply Qa.set_1|apply Qa.set_2|refine Qa.far ?_ NB0_541.out _)|exact HI0.out))
   (case side2=>repeat (first|(with_reducible first|exact HB.out|apply Qq|apply Qw|apply Qbb|refine Q1 ?_ (Qa.ge HI0.out)|refine Q1 ?_ GE541.out)|exact HB.out))
   (case side3=>repeat (first|exact (Kd.R_reads' HO554.out).2.2|(with_reducible refine Kd.C_alloc ?_ _)|(with_reducible refine Kd.C_drewN ?_ _)|(with_reducible refine Kd.C_drew ?_)))
   (case side4=>exact (Kd.R_reads' HO554.out).2.1)
   (case side5=>exact Qeh (Qa.own_ne HI0.out HO554.out (by decide)))
   rintro e w23 ⟨rfl,hi,hb,hk⟩;refine ⟨_,rfl,?_⟩;replace BK541:=Zk (Qj.blk hk (g':=gb541) (o:= .cells #[.slice A1_0 l1_0.length c1_0] 26 (0,0)) (uK BK541) NB541_0.out (by simp));replace HO554:=Zk (Kd.R_mono (Kd.R_keep (Qa.apart (show Qa w0 _ g s0_0 t550 t551 from (Qa.vI HI0)) (uR HO554) (by decide)) hk (fun _ h=>h.2)) (fun _ h=>h.1));replace HK:=Zk (Qj.trans (vK HK) hk (.inl rfl));replace HB:=Zk (hb);replace HI0:=Zk (hi)
   skip
   skip
   skip
   skip
   refine hK.out _ _ trivial (fun hHeld=> ?_);clear hK K;refine nU 31 ?_;refine pU 8 4 ?_;refine dU ?_
   try go_wp2
   go_ret
   exact ⟨by first|rfl|(simp [Qe,Qf] <;>rfl)|(simp only [←hji7];first|rfl|(simp [Qe,Qf] <;>rfl))|(simp [*,Qe,Qf] <;>rfl),(Qa.vI HI0),(Qa.vB HB),(vK HK)⟩
  ·
   replace c9:=Bool.eq_false_iff.mpr c9;subst c9;rw [if_neg (show ¬ (false=true) by decide)] at H;simp only [Option.some.injEq,Prod.mk.injEq] at H;obtain ⟨rfl,rfl,rfl⟩:=H;go_enter Try.func126,Try.ntmps126;go_wp2_with (first|(refine bE (N:=3) (cs:= #[.slice A1_0 l1_0.length c1_0]) (t:=26) ?_;intro gb541 hg w24 hbox hb;replace HB:=Zk (Qc (Qa.vB HB) hb);have BK541:=Zk (hbox);have GW541:=Zk ((by rw [hg];exact (Qbs (w:=w) (g:=g) (row:=none) (vK HK)):w.heap.size≤gb541));have GE541:=Zk ((Nat.le_trans HW0.out (by rw [hg];exact (Qbs (w:=w) (g:=g) (row:=none) (vK HK)):w.heap.size≤gb541):w0.heap.size≤gb541));replace HK:=Zk (Qj.trans (vK HK) (Qj.of_below hb g none) (.inl rfl));have NB0_541:=Zk ((by rw [hg];exact Nat.ne_of_lt (Qa.lt (show Qa w0 _ g s0_0 s0_1 s0_2 from (Qa.vI HI0))):g≠gb541));have NB541_0:=Zk ((by rw [hg];exact Nat.ne_of_gt (Qa.lt (show Qa w0 _ g s0_0 s0_1 s0_2 from (Qa.vI HI0))):gb541≠g));replace HI0:=Zk (Qa.below (Qa.vI HI0) hb);clear hb hbox hg;have hnb25:=NB541_0.out;have hnc25:=NB0_541.out;have hcz26_0:=bC BK541;have hfz26_0:=Qg BK541.out 0)|(refine gA (some 10) Try.func115 #[.int .i64 (l1_0.length:Int), .int .i64 12] ?_;(with_reducible refine (Qc2.calls (l1_0.length:Int) 12 t542 _ A3.out).mono ?_);rintro e w' ⟨rfl,⟨nd,rfl⟩⟩;refine ⟨_,rfl,?_⟩)|(refine gA (some 12) Try.func58 #[.pointer (some ⟨g,0,none⟩), .int .i64 256] ?_;(with_reducible refine (Qm.calls g s0_0 s0_1 s0_2 256 t543 t544 t545 w0 _ (Qa.vI HI0) (Qa.vB HB) A4.out).mono ?_);rintro e w27 ⟨rfl,hi,hb,hk⟩;refine ⟨_,rfl,?_⟩;replace BK541:=Zk (Qj.blk hk (g':=gb541) (o:= .cells #[.slice A1_0 l1_0.length c1_0] 26 (0,0)) (uK BK541) NB541_0.out (by simp));replace HK:=Zk (Qj.trans (vK HK) hk (.inl rfl));replace HB:=Zk (hb);replace HI0:=Zk (hi);(try clear hb hk hi))|(refine gA (some 14) Try.func58 #[.pointer (some ⟨g,0,none⟩), .int .i64 16] ?_;(with_reducible refine (Qm.calls g s0_0 t544 t545 16 t546 t547 t548 w0 _ (Qa.vI HI0) (Qa.vB HB) A5.out).mono ?_);rintro e w28 ⟨rfl,hi,hb,hk⟩;refine ⟨_,rfl,?_⟩;replace BK541:=Zk (Qj.blk hk (g':=gb541) (o:= .cells #[.slice A1_0 l1_0.length c1_0] 26 (0,0)) (uK BK541) NB541_0.out (by simp));replace HK:=Zk (Qj.trans (vK HK) hk (.inl rfl));replace HB:=Zk (hb);replace HI0:=Zk (hi);(try clear hb hk hi))|(refine gA (some 23) Try.func56 #[.pointer (some ⟨g,0,none⟩), .int .i64 12] ?_;(with_reducible refine (Qdl.calls g s0_0 t547 t548 12 false t550 t551 w0 _ (Qa.vI HI0) (Qa.vB HB) A8.out).mono ?_);rintro e w29 ⟨rfl,hi,hb,hk⟩;refine ⟨_,rfl,?_⟩;replace BK541:=Zk (Qj.blk hk (g':=gb541) (o:= .cells #[.slice A1_0 l1_0.length c1_0] 26 (0,0)) (uK BK541) NB541_0.out (by simp));replace HK:=Zk (Qj.trans (vK HK) hk (.inl rfl));replace HB:=Zk (hb);replace HI0:=Zk (hi);(try clear hb hk hi)))
   go_ret
   exact ⟨by first|rfl|(simp [Qe,Qf] <;>rfl)|(simp only [←hji7];first|rfl|(simp [Qe,Qf] <;>rfl))|(simp [*,Qe,Qf] <;>rfl),(Qa.vI HI0),(Qa.vB HB),(vK HK)⟩
 ·
  rw [if_neg c6] at H;exact absurd H (by simp)
def Qck.l0:Nat→Int→Int→List Int→Int→Int→Option (Int)
 |0,_,_,_,_,_=>none
 |k+1,x1,x5,x10,x11,x12=>if x12<x11 then (if 0≤x12 then (if x12<(x10.length:Int) then ((Qch.f x1 x12).bind fun t560=>(if t560=true then (Qck.l0 k x1 (Go.bits .or .i64 x5 (rd x10 x12)) x10 x11 (wrap64 (x12+1))) else (Qck.l0 k x1 x5 x10 x11 (wrap64 (x12+1))))) else (none)) else (none)) else (some x5)
def Qck.f (k:Nat) (l0_0:List Int) (a1:Int):Option (Int):=Qck.l0 k a1 a1 l0_0 (l0_0.length:Int) 0
theorem Qck.mono_l: ∀ k,(∀ y0 y1 y2 y3 y4,LeO (Qck.l0 k y0 y1 y2 y3 y4) (Qck.l0 (k+1) y0 y1 y2 y3 y4))
 |0=>fun _ _ _ _ _ r h=>by simp [Qck.l0] at h
 |k+1=>by
  have ih0:=Qck.mono_l k
  ·
   intro y0 y1 y2 y3 y4;unfold Qck.l0
   repeat' first
   |(with_reducible exact ih0 _ _ _ _ _)
   |(with_reducible exact LeO.refl _)
   |(with_reducible exact LeO.none _)
   |(with_reducible refine LeO.ite ?_ ?_)
   |(with_reducible refine LeO.bind ?_ (fun _=> ?_))
   |exact ih0 _ _ _ _ _
   |exact LeO.none _
   |refine LeO.ite ?_ ?_
   |refine LeO.bind ?_ (fun _=> ?_)
theorem Qck.mono: ∀ a0 a1 k,LeO (Qck.f k a0 a1) (Qck.f (k+1) a0 a1):=by
 intro a0 a1 k;have ih0:=Qck.mono_l k;unfold Qck.f
 repeat' (with_reducible first|apply ih0|exact LeO.refl _|exact LeO.none _|refine LeO.ite ?_ ?_|refine LeO.bind ?_ (fun _=> ?_))
set_option maxHeartbeats 8000000 in
set_option maxRecDepth 100000 in
theorem Qck.calls (k:Nat) (A0_0:Option Addr) (c0_0:Nat) (l0_0:List Int) (a1:Int) (r:Int) (w:World) (hr0_0:Kd.C (Kd.int .i64) w A0_0 l0_0.length l0_0) (hc0_0:l0_0.length≤c0_0) (h:Qck.f k l0_0 a1=some r):
 Calls Try.prog 127 #[.agg #[.slice A0_0 l0_0.length c0_0], .int .i64 a1] w fun e w'=>e= .returned (.int .i64 r)∧Below w.heap.size w w':=by
 have hu26:=Try.underlying26;have HR0_0:=Zk hr0_0;have HC0_0:=Zk hc0_0;clear hr0_0 hc0_0;have HB:=Zk (Below.refl w.heap.size w);have H:(Qck.l0 k a1 a1 l0_0 (l0_0.length:Int) 0)=some r:=h;clear h;have H':=Zk H;clear H;go_enter Try.func127,Try.ntmps127;go_wp2_with (first|(refine bE (N:=2) (cs:= #[.slice A0_0 l0_0.length c0_0]) (t:=26) ?_;intro gb558 hg w3 hbox hb;have BK558:=Zk (hbox);have GW558:=Zk ((by rw [hg];exact (Qh (uB HB)):w.heap.size≤gb558));have GE558:=GW558;replace HB:=Zk (Qc (uB HB) hb);clear hb hbox hg;have hcz4_0:=bC BK558;have hfz4_0:=Qg BK558.out 0))
 go_loopg [5,12] k (fun kq v5 v12 w'=> ∃ (x5_1:Int) (x12_1:Int),v5= .int .i64 x5_1∧v12= .int .i64 x12_1∧Z0 (Qck.l0 kq a1 x5_1 l0_0 (l0_0.length:Int) x12_1=some r)∧Z0 (kq≤k)∧Z0 (w'.heap[gb558]? =some (.cells #[(.slice A0_0 l0_0.length c0_0)] 26 (0,0)))∧Z0 (Below w.heap.size w w'))
 case atStart=>exact ⟨(a1),(0),(by first|rfl|(simp;done)|(simp [*];done)),(by first|rfl|(simp;done)|(simp [*];done)),H',⟨Nat.le_refl _⟩,⟨uK BK558⟩,⟨(vB HB)⟩⟩
 case round=>
  clear H'
  try clear hcz4_0 hfz4_0
  obtain ⟨x5_1,x12_1,rfl,rfl,HA,HK1,BK558,HB⟩:=hrel;cases gk with
  |zero=>exact absurd HA.out (by simp [Qck.l0])
  |succ k1=>
   have H:=HA.out;clear HA;simp only [Qck.l0] at H
   by_cases c5:x12_1<(l0_0.length:Int)
   ·
    rw [if_pos c5] at H;have c5b0:=decide_eq_true c5;clear c5
    by_cases c6:0≤x12_1
    ·
     rw [if_pos c6] at H;have c6b0:=decide_eq_true c6;clear c6
     by_cases c7:x12_1<(l0_0.length:Int)
     ·
      rw [if_pos c7] at H;have c7b0:=decide_eq_true c7;clear c7;obtain ⟨t560,A8,H⟩:=bs H;(try dsimp only at H)
      by_cases c9:t560=true
      ·
       subst c9;rw [if_pos rfl] at H;have H':=Zk H;clear H;have p559:0≤(x12_1:Int):=of_decide_eq_true (by first|(with_reducible assumption)|assumption);have q559:x12_1<(l0_0.length:Int):=of_decide_eq_true (by first|(with_reducible assumption)|assumption);obtain ⟨ad559,e559,hx559_0⟩:=Kd.at_int HR0_0.out x12_1 p559 q559;cases e559;replace hx559_0:=(HB.out.cell (World.block_lt_of_cell? w _ hx559_0)).trans hx559_0;replace p559:=eq_true p559;replace q559:=eq_true q559;go_wp2_with (first|(refine gA (some 19) Try.func59 #[.int .i64 a1, .int .i64 x12_1] ?_;(with_reducible refine (Qch.calls a1 x12_1 true _ A8.out).mono ?_);rintro e w' ⟨rfl,⟨nd,rfl⟩⟩;refine ⟨_,rfl,?_⟩));go_roundg k1
       case measure=>have:=HK1.out;omega
       case rel=>exact ⟨(Go.bits .or .i64 x5_1 (rd l0_0 x12_1)),(wrap64 (x12_1+1)),(by first|rfl|(simp;done)|(simp [*];done)),(by first|rfl|(simp;done)|(simp [*];done)),H',⟨by have:=HK1.out;omega⟩,⟨uK BK558⟩,⟨(vB HB)⟩⟩
      ·
       replace c9:=Bool.eq_false_iff.mpr c9;subst c9;rw [if_neg (show ¬ (false=true) by decide)] at H;have H':=Zk H;clear H;have p559:0≤(x12_1:Int):=of_decide_eq_true (by first|(with_reducible assumption)|assumption);have q559:x12_1<(l0_0.length:Int):=of_decide_eq_true (by first|(with_reducible assumption)|assumption);obtain ⟨ad559,e559,hx559_0⟩:=Kd.at_int HR0_0.out x12_1 p559 q559;cases e559;replace hx559_0:=(HB.out.cell (World.block_lt_of_cell? w _ hx559_0)).trans hx559_0;replace p559:=eq_true p559;replace q559:=eq_true q559;go_wp2_with (first|(refine gA (some 19) Try.func59 #[.int .i64 a1, .int .i64 x12_1] ?_;(with_reducible refine (Qch.calls a1 x12_1 false _ A8.out).mono ?_);rintro e w' ⟨rfl,⟨nd,rfl⟩⟩;refine ⟨_,rfl,?_⟩));go_roundg k1
       case measure=>have:=HK1.out;omega
       case rel=>exact ⟨(x5_1),(wrap64 (x12_1+1)),(by first|rfl|(simp;done)|(simp [*];done)),(by first|rfl|(simp;done)|(simp [*];done)),H',⟨by have:=HK1.out;omega⟩,⟨uK BK558⟩,⟨(vB HB)⟩⟩
     ·
      rw [if_neg c7] at H;exact absurd H (by simp)
    ·
     rw [if_neg c6] at H;exact absurd H (by simp)
   ·
    rw [if_neg c5] at H;have c5b0:=decide_eq_false c5;clear c5;obtain rfl:=Option.some.inj H;go_wp2
    go_ret
    exact ⟨by first|rfl|(simp [Qe,Qf] <;>rfl)|(simp [*,Qe,Qf] <;>rfl),(vB HB)⟩
def Qco.l0:Nat→Int→Int→List Int→Int→Int→Option (Int)
 |0,_,_,_,_,_=>none
 |k+1,x1,x5,x10,x11,x12=>if x12<x11 then (if 0≤x12 then (if x12<(x10.length:Int) then ((Qch.f x1 x12).bind fun t563=>(if t563=true then (Qco.l0 k x1 (Go.bits .andNot .i64 x5 (rd x10 x12)) x10 x11 (wrap64 (x12+1))) else (Qco.l0 k x1 x5 x10 x11 (wrap64 (x12+1))))) else (none)) else (none)) else (some x5)
def Qco.f (k:Nat) (l0_0:List Int) (a1:Int):Option (Int):=Qco.l0 k a1 a1 l0_0 (l0_0.length:Int) 0
theorem Qco.mono_l: ∀ k,(∀ y0 y1 y2 y3 y4,LeO (Qco.l0 k y0 y1 y2 y3 y4) (Qco.l0 (k+1) y0 y1 y2 y3 y4))
 |0=>fun _ _ _ _ _ r h=>by simp [Qco.l0] at h
 |k+1=>by
  have ih0:=Qco.mono_l k
  ·
   intro y0 y1 y2 y3 y4;unfold Qco.l0
   repeat' first
   |(with_reducible exact ih0 _ _ _ _ _)
   |(with_reducible exact LeO.refl _)
   |(with_reducible exact LeO.none _)
   |(with_reducible refine LeO.ite ?_ ?_)
   |(with_reducible refine LeO.bind ?_ (fun _=> ?_))
   |exact ih0 _ _ _ _ _
   |exact LeO.none _
   |refine LeO.ite ?_ ?_
   |refine LeO.bind ?_ (fun _=> ?_)
theorem Qco.mono: ∀ a0 a1 k,LeO (Qco.f k a0 a1) (Qco.f (k+1) a0 a1):=by
 intro a0 a1 k;have ih0:=Qco.mono_l k;unfold Qco.f
 repeat' (with_reducible first|apply ih0|exact LeO.refl _|exact LeO.none _|refine LeO.ite ?_ ?_|refine LeO.bind ?_ (fun _=> ?_))
set_option maxHeartbeats 8000000 in
set_option maxRecDepth 100000 in
theorem Qco.calls (k:Nat) (A0_0:Option Addr) (c0_0:Nat) (l0_0:List Int) (a1:Int) (r:Int) (w:World) (hr0_0:Kd.C (Kd.int .i64) w A0_0 l0_0.length l0_0) (hc0_0:l0_0.length≤c0_0) (h:Qco.f k l0_0 a1=some r):
 Calls Try.prog 128 #[.agg #[.slice A0_0 l0_0.length c0_0], .int .i64 a1] w fun e w'=>e= .returned (.int .i64 r)∧Below w.heap.size w w':=by
 have hu26:=Try.underlying26;have HR0_0:=Zk hr0_0;have HC0_0:=Zk hc0_0;clear hr0_0 hc0_0;have HB:=Zk (Below.refl w.heap.size w);have H:(Qco.l0 k a1 a1 l0_0 (l0_0.length:Int) 0)=some r:=h;clear h;have H':=Zk H;clear H;go_enter Try.func128,Try.ntmps128;go_wp2_with (first|(refine bE (N:=2) (cs:= #[.slice A0_0 l0_0.length c0_0]) (t:=26) ?_;intro gb561 hg w3 hbox hb;have BK561:=Zk (hbox);have GW561:=Zk ((by rw [hg];exact (Qh (uB HB)):w.heap.size≤gb561));have GE561:=GW561;replace HB:=Zk (Qc (uB HB) hb);clear hb hbox hg;have hcz4_0:=bC BK561;have hfz4_0:=Qg BK561.out 0))
 go_loopg [5,12] k (fun kq v5 v12 w'=> ∃ (x5_1:Int) (x12_1:Int),v5= .int .i64 x5_1∧v12= .int .i64 x12_1∧Z0 (Qco.l0 kq a1 x5_1 l0_0 (l0_0.length:Int) x12_1=some r)∧Z0 (kq≤k)∧Z0 (w'.heap[gb561]? =some (.cells #[(.slice A0_0 l0_0.length c0_0)] 26 (0,0)))∧Z0 (Below w.heap.size w w'))
 case atStart=>exact ⟨(a1),(0),(by first|rfl|(simp;done)|(simp [*];done)),(by first|rfl|(simp;done)|(simp [*];done)),H',⟨Nat.le_refl _⟩,⟨uK BK561⟩,⟨(vB HB)⟩⟩
 case round=>
  clear H'
  try clear hcz4_0 hfz4_0
  obtain ⟨x5_1,x12_1,rfl,rfl,HA,HK1,BK561,HB⟩:=hrel;cases gk with
  |zero=>exact absurd HA.out (by simp [Qco.l0])
  |succ k1=>
   have H:=HA.out;clear HA;simp only [Qco.l0] at H
   by_cases c5:x12_1<(l0_0.length:Int)
   ·
    rw [if_pos c5] at H;have c5b0:=decide_eq_true c5;clear c5
    by_cases c6:0≤x12_1
    ·
     rw [if_pos c6] at H;have c6b0:=decide_eq_true c6;clear c6
     by_cases c7:x12_1<(l0_0.length:Int)
     ·
      rw [if_pos c7] at H;have c7b0:=decide_eq_true c7;clear c7;obtain ⟨t563,A8,H⟩:=bs H;(try dsimp only at H)
      by_cases c9:t563=true
      ·
       subst c9;rw [if_pos rfl] at H;have H':=Zk H;clear H;have p562:0≤(x12_1:Int):=of_decide_eq_true (by first|(with_reducible assumption)|assumption);have q562:x12_1<(l0_0.length:Int):=of_decide_eq_true (by first|(with_reducible assumption)|assumption);obtain ⟨ad562,e562,hx562_0⟩:=Kd.at_int HR0_0.out x12_1 p562 q562;cases e562;replace hx562_0:=(HB.out.cell (World.block_lt_of_cell? w _ hx562_0)).trans hx562_0;replace p562:=eq_true p562;replace q562:=eq_true q562;go_wp2_with (first|(refine gA (some 19) Try.func59 #[.int .i64 a1, .int .i64 x12_1] ?_;(with_reducible refine (Qch.calls a1 x12_1 true _ A8.out).mono ?_);rintro e w' ⟨rfl,⟨nd,rfl⟩⟩;refine ⟨_,rfl,?_⟩));go_roundg k1
       case measure=>have:=HK1.out;omega
       case rel=>exact ⟨(Go.bits .andNot .i64 x5_1 (rd l0_0 x12_1)),(wrap64 (x12_1+1)),(by first|rfl|(simp;done)|(simp [*];done)),(by first|rfl|(simp;done)|(simp [*];done)),H',⟨by have:=HK1.out;omega⟩,⟨uK BK561⟩,⟨(vB HB)⟩⟩
      ·
       replace c9:=Bool.eq_false_iff.mpr c9;subst c9;rw [if_neg (show ¬ (false=true) by decide)] at H;have H':=Zk H;clear H;have p562:0≤(x12_1:Int):=of_decide_eq_true (by first|(with_reducible assumption)|assumption);have q562:x12_1<(l0_0.length:Int):=of_decide_eq_true (by first|(with_reducible assumption)|assumption);obtain ⟨ad562,e562,hx562_0⟩:=Kd.at_int HR0_0.out x12_1 p562 q562;cases e562;replace hx562_0:=(HB.out.cell (World.block_lt_of_cell? w _ hx562_0)).trans hx562_0;replace p562:=eq_true p562;replace q562:=eq_true q562;go_wp2_with (first|(refine gA (some 19) Try.func59 #[.int .i64 a1, .int .i64 x12_1] ?_;(with_reducible refine (Qch.calls a1 x12_1 false _ A8.out).mono ?_);rintro e w' ⟨rfl,⟨nd,rfl⟩⟩;refine ⟨_,rfl,?_⟩));go_roundg k1
       case measure=>have:=HK1.out;omega
       case rel=>exact ⟨(x5_1),(wrap64 (x12_1+1)),(by first|rfl|(simp;done)|(simp [*];done)),(by first|rfl|(simp;done)|(simp [*];done)),H',⟨by have:=HK1.out;omega⟩,⟨uK BK561⟩,⟨(vB HB)⟩⟩
     ·
      rw [if_neg c7] at H;exact absurd H (by simp)
    ·
     rw [if_neg c6] at H;exact absurd H (by simp)
   ·
    rw [if_neg c5] at H;have c5b0:=decide_eq_false c5;clear c5;obtain rfl:=Option.some.inj H;go_wp2
    go_ret
    exact ⟨by first|rfl|(simp [Qe,Qf] <;>rfl)|(simp [*,Qe,Qf] <;>rfl),(vB HB)⟩
def Qbm.j0:Nat→Int→Bool→List Int→Int→Int→List Int→Option (List Int × Int × Int × Int)
 |0,_,_,_,_,_,_=>none
 |k+1,x7,x25,x1000,x1001,x1002,x571000=>if x25=true then ((Qcq.f x1000 x1001 x1002 x571000).bind fun bt579=>((Qco.f k x571000 (Go.bits .and .i64 x7 bt579.1)).bind fun t582=>((Qck.f k x571000 t582).bind fun t583=>(some (x571000,t583,bt579.2.1,bt579.2.2))))) else (some (x571000,x7,x1001,x1002))
def Qbm.f (k:Nat) (s0_0:List Int) (s0_1:Int) (s0_2:Int) (a1:Int):Option (List Int × Int × Int × Int):=(Q0.f k s0_0 s0_1 s0_2 a1).bind fun bt565=>((Qcq.f s0_0 bt565.2.1 bt565.2.2 bt565.1).bind fun bt571=>((Qx.f k bt565.1).bind fun t574=>(if t574=true then ((Qdk.f bt565.1 bt571.1).bind fun t575=>(if t575=true then ((Qdl.f s0_0 bt571.2.1 bt571.2.2 12).bind fun bt576=>(Qbm.j0 k bt571.1 (!bt576.1) s0_0 bt576.2.1 bt576.2.2 bt565.1)) else (Qbm.j0 k bt571.1 false s0_0 bt571.2.1 bt571.2.2 bt565.1))) else (Qbm.j0 k bt571.1 false s0_0 bt571.2.1 bt571.2.2 bt565.1))))
theorem Qbm.mono_l: ∀ k,(∀ y0 y1 y2 y3 y4 y5,LeO (Qbm.j0 k y0 y1 y2 y3 y4 y5) (Qbm.j0 (k+1) y0 y1 y2 y3 y4 y5))
 |0=>fun _ _ _ _ _ _ r h=>by simp [Qbm.j0] at h
 |k+1=>by
  have ih0:=Qbm.mono_l k
  ·
   intro y0 y1 y2 y3 y4 y5;unfold Qbm.j0
   repeat' first
   |(with_reducible exact ih0 _ _ _ _ _ _)
   |(with_reducible exact Q0.mono _ _ _ _ _)
   |(with_reducible exact Qck.mono _ _ _)
   |(with_reducible exact Qx.mono _ _)
   |(with_reducible exact Qco.mono _ _ _)
   |(with_reducible exact LeO.refl _)
   |(with_reducible exact LeO.none _)
   |(with_reducible refine LeO.ite ?_ ?_)
   |(with_reducible refine LeO.bind ?_ (fun _=> ?_))
   |exact ih0 _ _ _ _ _ _
   |exact Q0.mono _ _ _ _ _
   |exact Qck.mono _ _ _
   |exact Qx.mono _ _
   |exact Qco.mono _ _ _
   |exact LeO.none _
   |refine LeO.ite ?_ ?_
   |refine LeO.bind ?_ (fun _=> ?_)
theorem Qbm.mono: ∀ a0 a1 a2 a3 k,LeO (Qbm.f k a0 a1 a2 a3) (Qbm.f (k+1) a0 a1 a2 a3):=by
 intro a0 a1 a2 a3 k;have ih0:=Qbm.mono_l k;unfold Qbm.f
 repeat' (with_reducible first|apply ih0|apply Q0.mono|apply Qck.mono|apply Qx.mono|apply Qco.mono|exact LeO.refl _|exact LeO.none _|refine LeO.ite ?_ ?_|refine LeO.bind ?_ (fun _=> ?_))
def Qbm.T4:Bool × List (List Nat × List Nat):=(true,[([],[]),([],[]),([],[]),([],[]),([],[]),([3,4],[3,4]),([2,5],[2,5]),([1,6,5],[1,6]),([0,7,7],[0,7]),([8,8,0,1,2,3,4,5,6,7,8],[2,8])])
def Qbm.B4:List Nat:= [0,0,0,0,0,24,60,126,255,511]
theorem Qbm.tab4:rtab .any (Qfx Try.f102 4)=Qbm.T4:=by kernel_rfl
theorem Qbm.bits4:Qem Qbm.T4.2 Qbm.B4=true:=by kernel_rfl
set_option maxHeartbeats 8000000 in
set_option maxRecDepth 100000 in
theorem Qbm.calls (k:Nat) (g:Nat) (s0_0:List Int) (s0_1:Int) (s0_2:Int) (a1:Int) (r1:List Int) (r2:Int) (r3:Int) (r4:Int) (w0 w:World) (hI:Qa w0 w g s0_0 s0_1 s0_2) (hB:Below w0.heap.size w0 w) (h:Qbm.f k s0_0 s0_1 s0_2 a1=some (r1,r2,r3,r4)):
 Calls Try.prog 102 #[.pointer (some ⟨g,0,none⟩), .int .i64 a1] w fun e w'=> ∃ v0_:Value,e= .returned (.tuple #[.agg #[v0_], .int .i64 r2])∧Kd.R (Kd.int .i64) 3 w' w.heap.size (fun _=>True) v0_ r1∧Qa w0 w' g s0_0 r3 r4∧Below w0.heap.size w0 w'∧Qj w w' g none:=by
 have hu26:=Try.underlying26;have HI0:=Zk hI;have HK:=Zk (Qj.refl w g none);have HL:=Zk hB.size;clear hI;have HW0:=Zk hB.size;have HB:=Zk hB;clear hB;have H:((Q0.f k s0_0 s0_1 s0_2 a1).bind fun bt565=>((Qcq.f s0_0 bt565.2.1 bt565.2.2 bt565.1).bind fun bt571=>((Qx.f k bt565.1).bind fun t574=>(if t574=true then ((Qdk.f bt565.1 bt571.1).bind fun t575=>(if t575=true then ((Qdl.f s0_0 bt571.2.1 bt571.2.2 12).bind fun bt576=>(Qbm.j0 k bt571.1 (!bt576.1) s0_0 bt576.2.1 bt576.2.2 bt565.1)) else (Qbm.j0 k bt571.1 false s0_0 bt571.2.1 bt571.2.2 bt565.1))) else (Qbm.j0 k bt571.1 false s0_0 bt571.2.1 bt571.2.2 bt565.1)))))=some (r1,r2,r3,r4):=h;clear h;obtain ⟨⟨t565,t568,t569⟩,A3,H⟩:=bs H;(try dsimp only at H)
 obtain ⟨⟨t571,t572,t573⟩,A4,H⟩:=bs H;(try dsimp only at H)
 have HC5:=Zk H;clear H;go_enter Try.func102,Try.ntmps102;go_upto_region 3 with (first|(refine bE (N:=4) (cs:= #[.slice none 0 0]) (t:=26) ?_;intro gb564 hg w6 hbox hb;replace HB:=Zk (Qc (Qa.vB HB) hb);have BK564:=Zk (hbox);have GW564:=Zk ((by rw [hg];exact (Qbs (w:=w) (g:=g) (row:=none) (vK HK)):w.heap.size≤gb564));have GE564:=Zk ((Nat.le_trans HW0.out (by rw [hg];exact (Qbs (w:=w) (g:=g) (row:=none) (vK HK)):w.heap.size≤gb564):w0.heap.size≤gb564));replace HK:=Zk (Qj.trans (vK HK) (Qj.of_below hb g none) (.inl rfl));have NB0_564:=Zk ((by rw [hg];exact Nat.ne_of_lt (Qa.lt (show Qa w0 _ g s0_0 s0_1 s0_2 from (Qa.vI HI0))):g≠gb564));have NB564_0:=Zk ((by rw [hg];exact Nat.ne_of_gt (Qa.lt (show Qa w0 _ g s0_0 s0_1 s0_2 from (Qa.vI HI0))):gb564≠g));replace HI0:=Zk (Qa.below (Qa.vI HI0) hb);clear hb hbox hg)|(refine gA (some 10) Try.func107 #[.pointer (some ⟨g,0,none⟩), .int .i64 a1] ?_;(with_reducible refine (Q0.calls k g s0_0 s0_1 s0_2 a1 t565 t568 t569 w0 _ (Qa.vI HI0) (Qa.vB HB) A3.out).mono ?_);rintro e w7 ⟨v566,rfl,ho0,hi,hb,hk⟩;refine ⟨_,rfl,?_⟩;replace BK564:=Zk (Qj.blk hk (g':=gb564) (o:= .cells #[.slice none 0 0] 26 (0,0)) (uK BK564) NB564_0.out (by simp));have HO567:=Zk (Kd.R_lower ho0 (Qbs (w:=w) (g:=g) (row:=none) (vK HK)));replace HK:=Zk (Qj.trans (vK HK) hk (.inl rfl));replace HB:=Zk (hb);replace HI0:=Zk (hi);(try clear hb hk hi ho0))|(refine bE (N:=6) (cs:= #[.slice none 0 0]) (t:=26) ?_;intro gb570 hg w8 hbox hb;replace HO567:=Zk (Kd.R_below (uR HO567) hb);replace HB:=Zk (Qc (Qa.vB HB) hb);have BK570:=Zk (hbox);have GW570:=Zk ((by rw [hg];exact (Qbs (w:=w) (g:=g) (row:=none) (vK HK)):w.heap.size≤gb570));have GE570:=Zk ((Nat.le_trans HW0.out (by rw [hg];exact (Qbs (w:=w) (g:=g) (row:=none) (vK HK)):w.heap.size≤gb570):w0.heap.size≤gb570));replace HK:=Zk (Qj.trans (vK HK) (Qj.of_below hb g none) (.inl rfl));have NB564_570:=Zk ((by rw [hg];exact Nat.ne_of_lt (Qb9 (uK BK564)):gb564≠gb570));have NB570_564:=Zk ((by rw [hg];exact Nat.ne_of_gt (Qb9 (uK BK564)):gb570≠gb564));replace BK564:=Zk (Qd (uK BK564) hb);have NB0_570:=Zk ((by rw [hg];exact Nat.ne_of_lt (Qa.lt (show Qa w0 _ g s0_0 t568 t569 from (Qa.vI HI0))):g≠gb570));have NB570_0:=Zk ((by rw [hg];exact Nat.ne_of_gt (Qa.lt (show Qa w0 _ g s0_0 t568 t569 from (Qa.vI HI0))):gb570≠g));replace HI0:=Zk (Qa.below (Qa.vI HI0) hb);clear hb hbox hg;obtain ⟨Ao9,co9,eo9⟩:=Kd.R_slice HO567.out;subst eo9;have hnb10:=NB570_564.out;have hnc10:=NB564_570.out;have hnb11:=NB570_0.out;have hnc11:=NB0_570.out;have hcz12_0:=bC BK570;have hfz12_0:=Qg BK570.out 0)|(refine gA (some 13) Try.func126 #[.pointer (some ⟨g,0,none⟩), .agg #[.slice Ao9 t565.length co9]] ?_;(with_reducible refine (Qcq.calls g s0_0 t568 t569 _ _ t565 t571 t572 t573 w0 _ (Qa.vI HI0) (Qa.vB HB) ?side3 ?side4 ?side5 A4.out).mono ?_);(case side3=>refine (Kd.R_reads' (e:=3) (base:=w.heap.size) (ok:=fun k_=>True) (n:=t565.length) (c:=co9) ?_).2.2;exact (rF HO567 BK570 (.slice Ao9 t565.length co9)));(case side4=>exact (Kd.R_reads' HO567.out).2.1);(case side5=>exact Qeh (Qa.own_ne HI0.out HO567.out (by decide)));rintro e w13 ⟨rfl,hi,hb,hk⟩;refine ⟨_,rfl,?_⟩;replace BK564:=Zk (Qj.blk hk (g':=gb564) (o:= .cells #[.slice none 0 0] 26 (0,0)) kF NB564_0.out (by simp));replace HO567:=Zk (Kd.R_mono (Kd.R_keep (Qa.apart (show Qa w0 _ g s0_0 t568 t569 from (Qa.vI HI0)) (rF HO567 BK570 (.slice Ao9 t565.length co9)) (by decide)) hk (fun _ h=>h.2)) (fun _ h=>h.1));replace BK570:=Zk (Qj.blk hk (g':=gb570) (o:= .cells #[.slice Ao9 t565.length co9] 26 (0,0)) bP NB570_0.out (by simp));replace HK:=Zk (Qj.trans (vK HK) hk (.inl rfl));replace HB:=Zk (hb);replace HI0:=Zk (hi);(try clear hb hk hi)))
 (try simp only [Act.put,List.setIfInBounds_toArray,List.set_cons_zero,List.set_cons_succ])
 go_cut [25] (fun v25 wc=> ∃ (kq:Nat) (x25_4:Bool) (x1001_4:Int) (x1002_4:Int),v25= .bool x25_4∧Z0 (Qbm.j0 kq t571 x25_4 s0_0 x1001_4 x1002_4 t565=some (r1,r2,r3,r4))∧Z0 (kq≤k)∧Z0 (Kd.R (Kd.int .i64) 3 wc w.heap.size (fun _=>True) (.slice Ao9 t565.length co9) t565)∧Z0 (wc.heap[gb564]? =some (.cells #[(.slice none 0 0)] 26 (0,0)))∧Z0 (wc.heap[gb570]? =some (.cells #[(.slice Ao9 t565.length co9)] 26 (0,0)))∧Z0 (Qa w0 wc g s0_0 x1001_4 x1002_4)∧Z0 (Qj w wc g none)∧Z0 (Below w0.heap.size w0 wc))
 case first=>
  have H:=HC5.out;clear HC5;obtain ⟨t574,A14,H⟩:=bs H;(try dsimp only at H)
  by_cases c15:t574=true
  ·
   subst c15;rw [if_pos rfl] at H;obtain ⟨t575,A16,H⟩:=bs H;(try dsimp only at H)
   by_cases c17:t575=true
   ·
    subst c17;rw [if_pos rfl] at H;obtain ⟨⟨t576,t577,t578⟩,A18,H⟩:=bs H;(try dsimp only at H)
    have H':=Zk H;clear H;have hnb19:=NB570_564.out;have hnc19:=NB564_570.out;have hnb20:=NB570_0.out;have hnc20:=NB0_570.out;have hcz21_0:=bC BK570;have hfz21_0:=Qg BK570.out 0;go_wp2_with (first|(refine gA (some 15) Try.func88 #[.agg #[.slice Ao9 t565.length co9]] ?_;(with_reducible refine (Qx.calls k _ _ t565 true _ (uE HO567) ?side2 A14.out).mono ?_);(case side2=>exact (Kd.R_reads' HO567.out).2.1);rintro e w22 ⟨rfl,hb⟩;refine ⟨_,rfl,?_⟩;replace HO567:=Zk (Kd.R_below (uR HO567) hb);replace HI0:=Zk (Qa.below (Qa.vI HI0) hb);replace BK564:=Zk (Qd (uK BK564) hb);replace BK570:=Zk (Qd (uK BK570) hb);replace HK:=Zk (Qj.trans (vK HK) (Qj.of_below hb g none) (.inl rfl));replace HB:=Zk (Qc (Qa.vB HB) hb);(try clear hb);have hcz23_0:=bC BK570;have hfz23_0:=Qg BK570.out 0)|(go_at_call 100;(with_reducible refine (Qdk.calls _ _ t565 t571 true _ (uE HO567) ?side2 A16.out).mono ?_);(case side2=>exact (Kd.R_reads' HO567.out).2.1);rintro e w24 ⟨rfl,hb⟩;replace HO567:=Zk (Kd.R_below (uR HO567) hb);replace HI0:=Zk (Qa.below (Qa.vI HI0) hb);replace BK564:=Zk (Qd (uK BK564) hb);replace BK570:=Zk (Qd (uK BK570) hb);replace HK:=Zk (Qj.trans (vK HK) (Qj.of_below hb g none) (.inl rfl));replace HB:=Zk (Qc (Qa.vB HB) hb);(try clear hb))|(go_at_call 56;(with_reducible refine (Qdl.calls g s0_0 t572 t573 12 t576 t577 t578 w0 _ (Qa.vI HI0) (Qa.vB HB) A18.out).mono ?_);rintro e w25 ⟨rfl,hi,hb,hk⟩;replace BK564:=Zk (Qj.blk hk (g':=gb564) (o:= .cells #[.slice none 0 0] 26 (0,0)) (uK BK564) NB564_0.out (by simp));replace HO567:=Zk (Kd.R_mono (Kd.R_keep (Qa.apart (show Qa w0 _ g s0_0 t572 t573 from (Qa.vI HI0)) (uR HO567) (by decide)) hk (fun _ h=>h.2)) (fun _ h=>h.1));replace BK570:=Zk (Qj.blk hk (g':=gb570) (o:= .cells #[.slice Ao9 t565.length co9] 26 (0,0)) (uK BK570) NB570_0.out (by simp));replace HK:=Zk (Qj.trans (vK HK) hk (.inl rfl));replace HB:=Zk (hb);replace HI0:=Zk (hi);(try clear hb hk hi)))
    go_meet
    case rel=>exact ⟨_,(!t576),(t577),(t578),(by first|rfl|(simp;done)|(simp [*];done)),H',⟨by first|omega|exact Nat.le_refl _⟩,⟨uR HO567⟩,⟨uK BK564⟩,⟨uK BK570⟩,⟨(Qa.vI HI0)⟩,⟨(vK HK)⟩,⟨(Qa.vB HB)⟩⟩
   ·
    replace c17:=Bool.eq_false_iff.mpr c17;subst c17;rw [if_neg (show ¬ (false=true) by decide)] at H;have H':=Zk H;clear H;have hnb26:=NB570_564.out;have hnc26:=NB564_570.out;have hnb27:=NB570_0.out;have hnc27:=NB0_570.out;have hcz28_0:=bC BK570;have hfz28_0:=Qg BK570.out 0;go_wp2_with (first|(refine gA (some 15) Try.func88 #[.agg #[.slice Ao9 t565.length co9]] ?_;(with_reducible refine (Qx.calls k _ _ t565 true _ (uE HO567) ?side2 A14.out).mono ?_);(case side2=>exact (Kd.R_reads' HO567.out).2.1);rintro e w29 ⟨rfl,hb⟩;refine ⟨_,rfl,?_⟩;replace HO567:=Zk (Kd.R_below (uR HO567) hb);replace HI0:=Zk (Qa.below (Qa.vI HI0) hb);replace BK564:=Zk (Qd (uK BK564) hb);replace BK570:=Zk (Qd (uK BK570) hb);replace HK:=Zk (Qj.trans (vK HK) (Qj.of_below hb g none) (.inl rfl));replace HB:=Zk (Qc (Qa.vB HB) hb);(try clear hb);have hcz30_0:=bC BK570;have hfz30_0:=Qg BK570.out 0)|(go_at_call 100;(with_reducible refine (Qdk.calls _ _ t565 t571 false _ (uE HO567) ?side2 A16.out).mono ?_);(case side2=>exact (Kd.R_reads' HO567.out).2.1);rintro e w31 ⟨rfl,hb⟩;replace HO567:=Zk (Kd.R_below (uR HO567) hb);replace HI0:=Zk (Qa.below (Qa.vI HI0) hb);replace BK564:=Zk (Qd (uK BK564) hb);replace BK570:=Zk (Qd (uK BK570) hb);replace HK:=Zk (Qj.trans (vK HK) (Qj.of_below hb g none) (.inl rfl));replace HB:=Zk (Qc (Qa.vB HB) hb);(try clear hb)))
    go_meet
    case rel=>exact ⟨_,(false),(t572),(t573),(by first|rfl|(simp;done)|(simp [*];done)),H',⟨by first|omega|exact Nat.le_refl _⟩,⟨uR HO567⟩,⟨uK BK564⟩,⟨uK BK570⟩,⟨(Qa.vI HI0)⟩,⟨(vK HK)⟩,⟨(Qa.vB HB)⟩⟩
  ·
   replace c15:=Bool.eq_false_iff.mpr c15;subst c15;rw [if_neg (show ¬ (false=true) by decide)] at H;have H':=Zk H;clear H;have hnb32:=NB570_564.out;have hnc32:=NB564_570.out;have hnb33:=NB570_0.out;have hnc33:=NB0_570.out;have hcz34_0:=bC BK570;have hfz34_0:=Qg BK570.out 0;go_wp2_with (first|(refine gA (some 15) Try.func88 #[.agg #[.slice Ao9 t565.length co9]] ?_;(with_reducible refine (Qx.calls k _ _ t565 false _ (uE HO567) ?side2 A14.out).mono ?_);(case side2=>exact (Kd.R_reads' HO567.out).2.1);rintro e w35 ⟨rfl,hb⟩;refine ⟨_,rfl,?_⟩;replace HO567:=Zk (Kd.R_below (uR HO567) hb);replace HI0:=Zk (Qa.below (Qa.vI HI0) hb);replace BK564:=Zk (Qd (uK BK564) hb);replace BK570:=Zk (Qd (uK BK570) hb);replace HK:=Zk (Qj.trans (vK HK) (Qj.of_below hb g none) (.inl rfl));replace HB:=Zk (Qc (Qa.vB HB) hb);(try clear hb)))
   go_meet
   case rel=>exact ⟨_,(false),(t572),(t573),(by first|rfl|(simp;done)|(simp [*];done)),H',⟨by first|omega|exact Nat.le_refl _⟩,⟨uR HO567⟩,⟨uK BK564⟩,⟨uK BK570⟩,⟨(Qa.vI HI0)⟩,⟨(vK HK)⟩,⟨(Qa.vB HB)⟩⟩
 case rest=>
  clear HC5
  try clear hcz12_0 hfz12_0
  obtain ⟨kq,x25_4,x1001_4,x1002_4,rfl,HA,HJ4,HO_571000,BK564,BK570,HI0,HK,HB⟩:=hcut;cases kq with
  |zero=>exact absurd HA.out (by simp [Qbm.j0])
  |succ kj4=>
   have H:=HA.out;clear HA;simp only [Qbm.j0] at H
   by_cases c36:x25_4=true
   ·
    subst c36;rw [if_pos rfl] at H;obtain ⟨⟨t579,t580,t581⟩,A37,H⟩:=bs H;(try dsimp only at H)
    obtain ⟨t582,A38,H⟩:=bs H;(try dsimp only at H)
    obtain ⟨t583,A39,H⟩:=bs H;(try dsimp only at H)
    simp only [Option.some.injEq,Prod.mk.injEq] at H;obtain ⟨rfl,rfl,rfl,rfl⟩:=H
    try go_wp2
    replace HO_571000:=Zk (Kd.R_drew HO_571000.out);replace BK564:=Zk (Qbj BK564.out);replace BK570:=Zk (Qbj BK570.out);replace HI0:=Zk (Qa.drew HI0.out);replace HK:=Zk (Qfc HK.out);replace HB:=Zk (Qbb HB.out);refine sU (n:=10) (S:=fun w'=>w'.cell? ⟨gb570,0,none⟩=some (.slice Ao9 t565.length co9)) (ds:= []) ((Qb4 BK570.out 0).trans rfl) (fun hHeld=> ?_);refine Qe5 Qbm.tab4 Qbm.bits4 (fun HT_ HW_=> ?_);generalize wc.drew=w40 at HO_571000 BK564 BK570 HI0 HK HB hHeld ⊢;refine pU 2 28 ?_;refine pU 3 29 ?_;refine tU 0 26 hHeld ?_;refine tU 1 27 hHeld ?_;refine tU 4 30 hHeld ?_;refine oU 5 (some 31) fun K hK=> ?_
    refine Qfe Try.func126 (by kernel_rfl) rfl #[.pointer (some ⟨g,0,none⟩), .agg #[.slice Ao9 t565.length co9]] (by rfl) rfl rfl (by (try simp only [List.map_toArray,List.map_cons,List.map_nil]);first|done|rfl|(simp only [List.length_drop,List.length_take];rfl)) ?_
    with_reducible refine (Qcq.calls g s0_0 x1001_4 x1002_4 _ _ t565 t579 t580 t581 w0 _ ?side1 ?side2 ?side3 ?side4 ?side5 A37.out).mono ?_
    (case side1=>repeat (first|(with_reducible first|exact HI0.out|apply Qa.alloc|apply Qa.drewN|apply Qa.drew|apply Qa.set_1|apply Qa.set_2|refine Qa.far ?_ NB0_564.out _|refine Qa.far ?_ NB0_570.out _)|exact HI0.out))
    (case side2=>repeat (first|(with_reducible first|exact HB.out|apply Qq|apply Qw|apply Qbb|refine Q1 ?_ (Qa.ge HI0.out)|refine Q1 ?_ GE564.out|refine Q1 ?_ GE570.out)|exact HB.out))
    (case side3=>repeat (first|exact (Kd.R_reads' HO_571000.out).2.2|(with_reducible refine Kd.C_alloc ?_ _)|(with_reducible refine Kd.C_drewN ?_ _)|(with_reducible refine Kd.C_drew ?_)))
    (case side4=>exact (Kd.R_reads' HO_571000.out).2.1)
    (case side5=>exact Qeh (Qa.own_ne HI0.out HO_571000.out (by decide)))
    rintro e w41 ⟨rfl,hi,hb,hk⟩;refine ⟨_,rfl,?_⟩;replace HO_571000:=Zk (Kd.R_mono (Kd.R_keep (Qa.apart (show Qa w0 _ g s0_0 x1001_4 x1002_4 from (Qa.vI HI0)) (uR HO_571000) (by decide)) hk (fun _ h=>h.2)) (fun _ h=>h.1));replace BK564:=Zk (Qj.blk hk (g':=gb564) (o:= .cells #[.slice none 0 0] 26 (0,0)) (uK BK564) NB564_0.out (by simp));replace BK570:=Zk (Qj.blk hk (g':=gb570) (o:= .cells #[.slice Ao9 t565.length co9] 26 (0,0)) (uK BK570) NB570_0.out (by simp));replace HK:=Zk (Qj.trans (vK HK) hk (.inl rfl));replace HB:=Zk (hb);replace HI0:=Zk (hi)
    skip
    skip
    skip
    skip
    refine hK.out _ _ ((Qb4 BK570.out 0).trans rfl) (fun hHeld=> ?_);clear hK K;refine nU 31 ?_;refine pU 6 32 ?_;refine oU 7 (some 33) fun K hK=> ?_
    refine Qfe Try.func128 (by kernel_rfl) rfl #[.agg #[.slice Ao9 t565.length co9], .int .i64 (Go.bits .and .i64 t571 t579)] (by rfl) rfl rfl (by (try simp only [List.map_toArray,List.map_cons,List.map_nil]);first|done|rfl|(simp only [List.length_drop,List.length_take];rfl)) ?_
    with_reducible refine (Qco.calls kj4 _ _ t565 (Go.bits .and .i64 t571 t579) t582 _ ?side1 ?side2 A38.out).mono ?_
    (case side1=>repeat (first|exact (Kd.R_reads' HO_571000.out).2.2|(with_reducible refine Kd.C_alloc ?_ _)|(with_reducible refine Kd.C_drewN ?_ _)|(with_reducible refine Kd.C_drew ?_)))
    (case side2=>exact (Kd.R_reads' HO_571000.out).2.1)
    rintro e w42 ⟨rfl,hb⟩;refine ⟨_,rfl,?_⟩;replace HO_571000:=Zk (Kd.R_below (uR HO_571000) hb);replace BK564:=Zk (Qd (uK BK564) hb);replace BK570:=Zk (Qd (uK BK570) hb);replace HI0:=Zk (Qa.below (Qa.vI HI0) hb);replace HK:=Zk (Qj.trans (vK HK) (Qj.of_below hb g none) (.inl rfl));replace HB:=Zk (Qc (Qa.vB HB) hb)
    skip
    skip
    skip
    skip
    refine hK.out _ _ ((Qb4 BK570.out 0).trans rfl) (fun hHeld=> ?_);clear hK K;refine nU 33 ?_;refine oU 8 (some 34) fun K hK=> ?_
    refine Qfe Try.func127 (by kernel_rfl) rfl #[.agg #[.slice Ao9 t565.length co9], .int .i64 t582] (by rfl) rfl rfl (by (try simp only [List.map_toArray,List.map_cons,List.map_nil]);first|done|rfl|(simp only [List.length_drop,List.length_take];rfl)) ?_
    with_reducible refine (Qck.calls kj4 _ _ t565 t582 t583 _ ?side1 ?side2 A39.out).mono ?_
    (case side1=>repeat (first|exact (Kd.R_reads' HO_571000.out).2.2|(with_reducible refine Kd.C_alloc ?_ _)|(with_reducible refine Kd.C_drewN ?_ _)|(with_reducible refine Kd.C_drew ?_)))
    (case side2=>exact (Kd.R_reads' HO_571000.out).2.1)
    rintro e w43 ⟨rfl,hb⟩;refine ⟨_,rfl,?_⟩;replace HO_571000:=Zk (Kd.R_below (uR HO_571000) hb);replace BK564:=Zk (Qd (uK BK564) hb);replace BK570:=Zk (Qd (uK BK570) hb);replace HI0:=Zk (Qa.below (Qa.vI HI0) hb);replace HK:=Zk (Qj.trans (vK HK) (Qj.of_below hb g none) (.inl rfl));replace HB:=Zk (Qc (Qa.vB HB) hb)
    skip
    skip
    skip
    skip
    refine hK.out _ _ ((Qb4 BK570.out 0).trans rfl) (fun hHeld=> ?_);clear hK K;refine nU 34 ?_;refine pU 9 7 ?_;refine dU ?_;have hnb44:=NB570_564.out;have hnc44:=NB564_570.out;have hnb45:=NB570_0.out;have hnc45:=NB0_570.out;have hcz46_0:=bC BK570;have hfz46_0:=Qg BK570.out 0;have hnb47:=NB564_0.out;have hnc47:=NB0_564.out;have hcz48_0:=bC BK564;have hfz48_0:=Qg BK564.out 0
    try go_wp2
    refine bodyPost_ret (Qee rfl _ _ gb564 26 #[.slice Ao9 t565.length co9] (0,0) _ rfl bP Try.underlying26 rfl (by kernel_rfl)) rfl ?_;exact ⟨_,by first|rfl|(simp [Qe,Qf] <;>rfl)|(simp [*,Qe,Qf] <;>rfl),by (with_reducible repeat (first|apply Kd.R_alloc|apply Kd.R_drewN|apply Kd.R_drew));exact Kd.R_mono (Kd.R_far (p:=⟨gb564,0,none⟩) (Kd.R_types HO_571000.out BK564.out (by decide)) (fun _ hk=>hk.2) (.slice Ao9 t565.length co9)) (fun _ hk=>trivial),(Qa.vI HI0),(Qa.vB HB),(vK HK)⟩
   ·
    replace c36:=Bool.eq_false_iff.mpr c36;subst c36;rw [if_neg (show ¬ (false=true) by decide)] at H;simp only [Option.some.injEq,Prod.mk.injEq] at H;obtain ⟨rfl,rfl,rfl,rfl⟩:=H;have hnb49:=NB570_564.out;have hnc49:=NB564_570.out;have hnb50:=NB570_0.out;have hnc50:=NB0_570.out;have hcz51_0:=bC BK570;have hfz51_0:=Qg BK570.out 0;have hnb52:=NB564_0.out;have hnc52:=NB0_564.out;have hcz53_0:=bC BK564;have hfz53_0:=Qg BK564.out 0;go_wp2;refine bodyPost_ret (Qee rfl _ _ gb564 26 #[.slice Ao9 t565.length co9] (0,0) _ rfl bP Try.underlying26 rfl (by kernel_rfl)) rfl ?_;exact ⟨_,by first|rfl|(simp [Qe,Qf] <;>rfl)|(simp [*,Qe,Qf] <;>rfl),by (with_reducible repeat (first|apply Kd.R_alloc|apply Kd.R_drewN|apply Kd.R_drew));exact Kd.R_mono (Kd.R_far (p:=⟨gb564,0,none⟩) (Kd.R_types HO_571000.out BK564.out (by decide)) (fun _ hk=>hk.2) (.slice Ao9 t565.length co9)) (fun _ hk=>trivial),(Qa.vI HI0),(Qa.vB HB),(vK HK)⟩
end Go.Proofs.Ytkgngggppcmpfaa.L
end
section
namespace Go.Proofs.Ytkgngggppcmpfaa.L
open Go.RowKit Go.Proofs.YtkgngggppcmpfaaW.PrintWords Go.Proofs.YtkgngggppcmpfaaW.PrintLast Go.Proofs.YtkgngggppcmpfaaW.PrintMore
attribute [local go_sem] Qbd Qbf Qbn Qbo Q3 Q4 Qbe Qbg
set_option linter.unusedVariables false
set_option linter.unusedSimpArgs false
def Qb5.f (k:Nat) (l0:List Int):Option (List Int × Int × Int):=(Qbm.f k l0 0 0 8).bind fun bt586=>((Qbh.f l0 bt586.2.2.1 bt586.2.2.2 (([0,1,1,5,20,21,(-1)] :List Int))).bind fun bt596=>(some (bt586.1,bt586.2.1,bt596.1)))
theorem Qb5.mono: ∀ a0 k,LeO (Qb5.f k a0) (Qb5.f (k+1) a0):=by
 intro a0 k;unfold Qb5.f
 repeat' (with_reducible first|apply Qbm.mono|exact LeO.refl _|exact LeO.none _|refine LeO.ite ?_ ?_|refine LeO.bind ?_ (fun _=> ?_))
def Qb5.T3:Bool × List (List Nat × List Nat):=(true,[([],[]),([],[]),([],[]),([],[]),([2,3],[2,3]),([0,4,0],[0]),([1,5,0,1,5],[1]),([4,6,0,1,2,3,4,5,6],[4])])
def Qb5.B3:List Nat:= [0,0,0,0,12,29,63,127]
theorem Qb5.tab3:rtab .any (Qfx Try.f45 3)=Qb5.T3:=by kernel_rfl
theorem Qb5.bits3:Qem Qb5.T3.2 Qb5.B3=true:=by kernel_rfl
set_option maxHeartbeats 8000000 in
set_option maxRecDepth 100000 in
theorem Qb5.calls (k:Nat) (A0:Option Addr) (c0:Nat) (l0:List Int) (r1:List Int) (r2:Int) (r3:Int) (w:World) (hr0:Kd.C (Kd.int .u8) w A0 l0.length l0) (hc0:l0.length≤c0) (h:Qb5.f k l0=some (r1,r2,r3)):
 Calls Try.prog 45 #[.slice A0 l0.length c0] w fun e w'=> ∃ v0_:Value,e= .returned (.tuple #[.agg #[v0_], .int .i64 r2, .int .i64 r3])∧Kd.R (Kd.int .i64) 3 w' w.heap.size (fun _=>True) v0_ r1∧Below w.heap.size w w':=by
 have hu26:=Try.underlying26;have hu67:=Try.underlying67;have HR0:=Zk hr0;have HC0:=Zk hc0;clear hr0 hc0;have HB:=Zk (Below.refl w.heap.size w);have H:((Qbm.f k l0 0 0 8).bind fun bt586=>((Qbh.f l0 bt586.2.2.1 bt586.2.2.2 (([0,1,1,5,20,21,(-1)] :List Int))).bind fun bt596=>(some (bt586.1,bt586.2.1,bt596.1))))=some (r1,r2,r3):=h;clear h;replace H:=Option.bind_eq_some_iff.mp H;obtain ⟨⟨t586,t589,t590,t591⟩,A20,H⟩:=H;replace H:((Qbh.f l0 t590 t591 (([0,1,1,5,20,21,(-1)] :List Int))).bind fun bt596=>(some (t586,t589,bt596.1)))=some (r1,r2,r3):=H;have A2:=Zk A20;clear A20;obtain ⟨y593,hy593⟩: ∃ y_:List Int,y_=(([0,1,1,5,20,21,(-1)] :List Int)):=⟨_,rfl⟩
 replace H:((Qbh.f l0 t590 t591 y593).bind fun bt596=>(some (t586,t589,bt596.1)))=some (r1,r2,r3):=by first|(rw [hy593];with_reducible exact H)|(have H2_:=(Option.bind_some _ _).symm.trans H;rw [hy593];with_reducible exact H2_)|(have H2_:=(Option.bind_some _ _).symm.trans H;with_reducible exact H2_)|with_reducible exact H|(rw [hy593];exact H)|exact H
 have Ny593:=Zk hy593;clear hy593;replace H:=Option.bind_eq_some_iff.mp H;obtain ⟨⟨t596,t597,t598⟩,A30,H⟩:=H;replace H:(some (t586,t589,t596))=some (r1,r2,r3):=H;have A3:=Zk A30;clear A30;simp only [Option.some.injEq,Prod.mk.injEq] at H;obtain ⟨rfl,rfl,rfl⟩:=H;go_enter Try.func45,Try.ntmps45
 try go_wp2_with (first|((with_reducible refine Qb2 (N:=2) rfl ?_);refine Qeo ?hg (N:=2) ?hd (cs:= #[.slice none 0 0]) (t:=26) ?hr ?_;(case hd=>rfl);(case hg=>rfl);(case hr=>first|(go_simp;done)|(go_simp;rfl));intro gb584 hg w4 hbox hb;have BK584:=Zk (hbox);have GW584:=Zk ((by rw [hg];exact (Qh (by repeat (first|(with_reducible first|exact HB.out|apply Qq|apply Qw|apply Qbb)|exact HB.out))):w.heap.size≤gb584));have GE584:=GW584;replace HB:=Zk (Qc (by repeat (first|(with_reducible first|exact HB.out|apply Qq|apply Qw|apply Qbb)|exact HB.out)) hb);clear hb hbox hg)|((with_reducible refine Qb2 (N:=10) rfl ?_);refine Qeo ?hg (N:=10) ?hd (cs:= #[.slice A0 l0.length c0, .int .i64 0, .int .u64 0]) (t:=67) ?hr ?_;(case hd=>rfl);(case hg=>rfl);(case hr=>first|(go_simp;done)|(go_simp;rfl));intro gb585 hg w5 hbox hb;have HI585:=Zk ((⟨_,_,hbox,(by rw [hg];exact (Qh (by repeat (first|(with_reducible first|exact HB.out|apply Qq|apply Qw|apply Qbb|refine Q1 ?_ GE584.out)|exact HB.out))):w.heap.size≤gb585),HR0.out⟩:Qa w _ gb585 l0 0 0));have GW585:=Zk ((by rw [hg];exact (Qh (by repeat (first|(with_reducible first|exact HB.out|apply Qq|apply Qw|apply Qbb|refine Q1 ?_ GE584.out)|exact HB.out))):w.heap.size≤gb585));have GE585:=GW585;replace HB:=Zk (Qc (by repeat (first|(with_reducible first|exact HB.out|apply Qq|apply Qw|apply Qbb|refine Q1 ?_ GE584.out)|exact HB.out)) hb);have NB584_585:=Zk ((by rw [hg];exact Nat.ne_of_lt (Qb9 (g:=gb584) (o:= .cells #[.slice none 0 0] 26 (0,0)) (by (with_reducible repeat (first|refine Qbp ?_ _|refine Qbj ?_|refine Qbk ?_ _));exact BK584.out)):gb584≠gb585));have NB585_584:=Zk ((by rw [hg];exact Nat.ne_of_gt (Qb9 (g:=gb584) (o:= .cells #[.slice none 0 0] 26 (0,0)) (by (with_reducible repeat (first|refine Qbp ?_ _|refine Qbj ?_|refine Qbk ?_ _));exact BK584.out)):gb585≠gb584));replace BK584:=Zk (Qd (g:=gb584) (o:= .cells #[.slice none 0 0] 26 (0,0)) (by (with_reducible repeat (first|refine Qbp ?_ _|refine Qbj ?_|refine Qbk ?_ _));exact BK584.out) hb);clear hb hbox hg)|((with_reducible refine Qdx (f:=102) rfl ?_);refine Qe3 (some 13) rfl rfl Try.func102 (by kernel_rfl) rfl #[.pointer (some ⟨gb585,0,none⟩), .int .i64 8] rfl (by (try simp only [List.map_toArray,List.map_cons,List.map_nil]);first|done|rfl|(simp only [List.length_drop,List.length_take];rfl)) ?_;(with_reducible refine (Qbm.calls k gb585 l0 0 0 8 t586 t589 t590 t591 w _ ?side1 ?side2 A2.out).mono ?_);(case side1=>repeat (first|(with_reducible first|exact HI585.out|apply Qa.alloc|apply Qa.drewN|apply Qa.drew|apply Qa.set_1|apply Qa.set_2|refine Qa.far ?_ NB585_584.out _)|exact HI585.out));(case side2=>repeat (first|(with_reducible first|exact HB.out|apply Qq|apply Qw|apply Qbb|refine Q1 ?_ (Qa.ge HI585.out)|refine Q1 ?_ GE584.out)|exact HB.out));rintro e w6 ⟨v587,rfl,ho0,hi,hb,hk⟩;refine ⟨_,rfl,?_⟩;replace BK584:=Zk (Qj.blk hk (g':=gb584) (o:= .cells #[.slice none 0 0] 26 (0,0)) (by (with_reducible repeat (first|refine Qbp ?_ _|refine Qbj ?_|refine Qbk ?_ _));exact BK584.out) NB584_585.out (by simp));have HO588:=Zk (Kd.R_lower ho0 (Qh (by repeat (first|(with_reducible first|exact HB.out|apply Qq|apply Qw|apply Qbb|refine Q1 ?_ (Qa.ge HI585.out)|refine Q1 ?_ GE584.out)|exact HB.out))));replace HB:=Zk (hb);replace HI585:=Zk (hi);(try clear hb);(try clear hb2);(try clear hk);(try clear hi);(try clear ho0))|((with_reducible refine Qb2 (N:=6) rfl ?_);refine Qeo ?hg (N:=6) ?hd (cs:= #[.slice none 0 0]) (t:=26) ?hr ?_;(case hd=>rfl);(case hg=>rfl);(case hr=>first|(go_simp;done)|(go_simp;rfl));intro gb592 hg w7 hbox hb;replace HO588:=Zk (Kd.R_below (by (with_reducible repeat (first|apply Kd.R_alloc|apply Kd.R_drewN|apply Kd.R_drew));exact HO588.out) hb);have BK592:=Zk (hbox);have GW592:=Zk ((by rw [hg];exact (Qh (by repeat (first|(with_reducible first|exact HB.out|apply Qq|apply Qw|apply Qbb|refine Q1 ?_ (Qa.ge HI585.out)|refine Q1 ?_ GE584.out)|exact HB.out))):w.heap.size≤gb592));have GE592:=GW592;replace HB:=Zk (Qc (by repeat (first|(with_reducible first|exact HB.out|apply Qq|apply Qw|apply Qbb|refine Q1 ?_ (Qa.ge HI585.out)|refine Q1 ?_ GE584.out)|exact HB.out)) hb);have NB584_592:=Zk ((by rw [hg];exact Nat.ne_of_lt (Qb9 (g:=gb584) (o:= .cells #[.slice none 0 0] 26 (0,0)) (by (with_reducible repeat (first|refine Qbp ?_ _|refine Qbj ?_|refine Qbk ?_ _));exact BK584.out)):gb584≠gb592));have NB592_584:=Zk ((by rw [hg];exact Nat.ne_of_gt (Qb9 (g:=gb584) (o:= .cells #[.slice none 0 0] 26 (0,0)) (by (with_reducible repeat (first|refine Qbp ?_ _|refine Qbj ?_|refine Qbk ?_ _));exact BK584.out)):gb592≠gb584));replace BK584:=Zk (Qd (g:=gb584) (o:= .cells #[.slice none 0 0] 26 (0,0)) (by (with_reducible repeat (first|refine Qbp ?_ _|refine Qbj ?_|refine Qbk ?_ _));exact BK584.out) hb);have NB585_592:=Zk ((by rw [hg];exact Nat.ne_of_lt (Qa.lt (show Qa w _ gb585 l0 t590 t591 from by repeat (first|(with_reducible first|exact HI585.out|apply Qa.alloc|apply Qa.drewN|apply Qa.drew|apply Qa.set_1|apply Qa.set_2|refine Qa.far ?_ NB585_584.out _)|exact HI585.out))):gb585≠gb592));have NB592_585:=Zk ((by rw [hg];exact Nat.ne_of_gt (Qa.lt (show Qa w _ gb585 l0 t590 t591 from by repeat (first|(with_reducible first|exact HI585.out|apply Qa.alloc|apply Qa.drewN|apply Qa.drew|apply Qa.set_1|apply Qa.set_2|refine Qa.far ?_ NB585_584.out _)|exact HI585.out))):gb592≠gb585));replace HI585:=Zk (Qa.below (by repeat (first|(with_reducible first|exact HI585.out|apply Qa.alloc|apply Qa.drewN|apply Qa.drew|apply Qa.set_1|apply Qa.set_2|refine Qa.far ?_ NB585_584.out _)|exact HI585.out)) hb);clear hb hbox hg;obtain ⟨Ao8,co8,eo8⟩:=Kd.R_slice HO588.out;subst eo8;have hnb9:=NB592_584.out;have hnc9:=NB584_592.out;have hnb10:=NB592_585.out;have hnc10:=NB585_592.out;have hcz11_0:w7.cell? ⟨gb592,0,none⟩=some (.slice none 0 0):=(Qb4 BK592.out 0).trans rfl;have hfz11_0:=Qg BK592.out 0))
 have n0_:Z0 (Kd.R (Kd.int .i64) 3 (w7.setCell ⟨gb592,0,none⟩ (.slice Ao8 t586.length co8)) w.heap.size (fun _=>True) (.slice Ao8 t586.length co8) t586):=⟨by (with_reducible repeat (first|apply Kd.R_alloc|apply Kd.R_drewN|apply Kd.R_drew));exact Kd.R_mono (Kd.R_far (p:=⟨gb592,0,none⟩) (Kd.R_types HO588.out BK592.out (by decide)) (fun _ hk=>hk.2) (.slice Ao8 t586.length co8)) (fun _ hk=>trivial)⟩
 have n1_:Z0 ((w7.setCell ⟨gb592,0,none⟩ (.slice Ao8 t586.length co8)).heap[gb584]? =some (.cells #[.slice none 0 0] 26 (0,0))):=⟨by (with_reducible repeat (first|refine Qbp ?_ _|refine Qbj ?_|refine Qbk ?_ _));refine Qdf ?_ NB584_592.out _;(with_reducible repeat (first|refine Qbp ?_ _|refine Qbj ?_|refine Qbk ?_ _));exact BK584.out⟩
 have n2_:Z0 ((w7.setCell ⟨gb592,0,none⟩ (.slice Ao8 t586.length co8)).heap[gb592]? =some (.cells #[.slice Ao8 t586.length co8] 26 (0,0))):=⟨by (with_reducible repeat (first|refine Qbp ?_ _|refine Qbj ?_|refine Qbk ?_ _));refine Qfk (cs:= #[.slice none 0 0]) ?_ 0 _ rfl;(with_reducible repeat (first|refine Qbp ?_ _|refine Qbj ?_|refine Qbk ?_ _));exact BK592.out⟩
 have n3_:Z0 (Qa w (w7.setCell ⟨gb592,0,none⟩ (.slice Ao8 t586.length co8)) gb585 l0 t590 t591):=⟨by repeat (first|(with_reducible first|exact HI585.out|apply Qa.alloc|apply Qa.drewN|apply Qa.drew|apply Qa.set_1|apply Qa.set_2|refine Qa.far ?_ NB585_584.out _|refine Qa.far ?_ NB585_592.out _)|exact HI585.out)⟩
 have n4_:Z0 (Below w.heap.size w (w7.setCell ⟨gb592,0,none⟩ (.slice Ao8 t586.length co8))):=⟨by repeat (first|(with_reducible first|exact HB.out|apply Qq|apply Qw|apply Qbb|refine Q1 ?_ (Qa.ge HI585.out)|refine Q1 ?_ GE584.out|refine Q1 ?_ GE592.out)|exact HB.out)⟩
 (try clear HO588)
 (try clear BK584)
 (try clear BK592)
 (try clear HI585)
 (try clear HB)
 generalize (w7.setCell ⟨gb592,0,none⟩ (.slice Ao8 t586.length co8))=w12 at n0_ n1_ n2_ n3_ n4_ ⊢;have HO588:=n0_;have BK584:=n1_;have BK592:=n2_;have HI585:=n3_;have HB:=n4_;clear n0_ n1_ n2_ n3_ n4_;replace HO588:=Zk (Kd.R_drew HO588.out);replace BK584:=Zk (Qbj BK584.out);replace BK592:=Zk (Qbj BK592.out);replace HI585:=Zk (Qa.drew HI585.out);replace HB:=Zk (Qbb HB.out);refine start_ (n:=8) (S:=fun w'=>w'.cell? ⟨gb592,0,none⟩=some (.slice Ao8 t586.length co8)) (ds:= []) #[false,false,false,false,false,false,false,false] (by kernel_rfl) rfl rfl ((Qb4 BK592.out 0).trans rfl) (fun hHeld=> ?_);refine Qe5 Qb5.tab3 Qb5.bits3 (fun HT_ HW_=> ?_);generalize w12.drew=w13 at HO588 BK584 BK592 HI585 HB hHeld ⊢;refine Qiz (i:=1) (N:=some 17) (v:= ?_) (a':= ?_) #[false,true,false,false,false,false,false,false] rfl rfl (Qia HT_.out (by kernel_rfl)) (fun _ _ _ h=>h) (Or.inl ⟨by rfl,?_⟩) ?_ ?_;rotate_left
 ·
  intro w';go_simp
  with_reducible rfl
 rotate_left
 ·
  simp only [Act.put,List.setIfInBounds_toArray,List.set_cons_zero,List.set_cons_succ,Qci,Qdb];rfl
 refine Qiz (i:=2) (N:=some 18) (v:= ?_) (a':= ?_) #[false,true,true,false,false,false,false,false] rfl rfl (Qia HT_.out (by kernel_rfl)) (fun _ _ _ h=>h) (Or.inl ⟨by rfl,?_⟩) ?_ ?_;rotate_left
 ·
  intro w';go_simp
  with_reducible rfl
 rotate_left
 ·
  simp only [Act.put,List.setIfInBounds_toArray,List.set_cons_zero,List.set_cons_succ,Qci,Qdb];rfl
 refine take_ (i:=0) (N:=some 16) (v:= ?_) (a':= ?_) #[true,true,true,false,false,false,false,false] rfl rfl (Qfg HT_.out HW_.out (by kernel_rfl)) (fun _ _ _ h=>h) (Or.inl ⟨by rfl,?_⟩) hHeld ?_ ?_;rotate_left
 ·
  intro w' s0;go_simp
  with_reducible rfl
 rotate_left
 ·
  simp only [Act.put,List.setIfInBounds_toArray,List.set_cons_zero,List.set_cons_succ,Qci,Qdb];rfl
 refine one_ (i:=3) (N:=some 19) #[true,true,true,true,false,false,false,false] rfl rfl (Qil HT_.out (by kernel_rfl)) (by decide) (fun K hK=> ?_);refine Kd.R_lit_step (Kd.int .i64) _ 3 ?hg (N:=19) ?hd (xs:=([0,1,1,5,20,21,(-1)] :List Int)) (inner:= [.int .i64 0, .int .i64 1, .int .i64 1, .int .i64 5, .int .i64 20, .int .i64 21, .int .i64 (-1)]) (ok:=fun _=>True) (okp:=fun _=>True) ?hr ?hp (fun _ hk=>hk) trivial (Below.refl _ _) (Nat.le_refl _) (by simp) ?_;(case hd=>rfl);(case hg=>rfl);(case hr=>first|(go_simp;done)|(go_simp;rfl));(case hp=>exact (Reps.one (show Kd.M (Kd.int .i64) _ _ _ 0 [.int .i64 0] from rfl) (Reps.one (show Kd.M (Kd.int .i64) _ _ _ 1 [.int .i64 1] from rfl) (Reps.one (show Kd.M (Kd.int .i64) _ _ _ 1 [.int .i64 1] from rfl) (Reps.one (show Kd.M (Kd.int .i64) _ _ _ 5 [.int .i64 5] from rfl) (Reps.one (show Kd.M (Kd.int .i64) _ _ _ 20 [.int .i64 20] from rfl) (Reps.one (show Kd.M (Kd.int .i64) _ _ _ 21 [.int .i64 21] from rfl) (Reps.one (show Kd.M (Kd.int .i64) _ _ _ (-1) [.int .i64 (-1)] from rfl) (Reps.none _ _)))))))))
 intro v594 w14 ho15 hb hg_ hnew_;clear hg_ hnew_
 (first|rw [←Ny593.out] at ho15|(simp only [Int.reduceToNat] at ho15;rw [←Ny593.out] at ho15))
 have HO595:=Zk (Kd.R_lower (Kd.R_new' ho15 (Kd.R_lt (by (with_reducible repeat (first|apply Kd.R_alloc|apply Kd.R_drewN|apply Kd.R_drew));exact HO588.out))) (Qh (by repeat (first|(with_reducible first|exact HB.out|apply Qq|apply Qw|apply Qbb|refine Q1 ?_ (Qa.ge HI585.out)|refine Q1 ?_ GE584.out|refine Q1 ?_ GE592.out)|exact HB.out))));replace HO588:=Zk (Kd.R_elder' (by (with_reducible repeat (first|apply Kd.R_alloc|apply Kd.R_drewN|apply Kd.R_drew));exact HO588.out) (Kd.R_base ho15) hb);replace BK584:=Zk (Qd (g:=gb584) (o:= .cells #[.slice none 0 0] 26 (0,0)) (by (with_reducible repeat (first|refine Qbp ?_ _|refine Qbj ?_|refine Qbk ?_ _));exact BK584.out) hb);replace BK592:=Zk (Qd (g:=gb592) (o:= .cells #[.slice Ao8 t586.length co8] 26 (0,0)) (by (with_reducible repeat (first|refine Qbp ?_ _|refine Qbj ?_|refine Qbk ?_ _));exact BK592.out) hb);replace HB:=Zk (Qc (by repeat (first|(with_reducible first|exact HB.out|apply Qq|apply Qw|apply Qbb|refine Q1 ?_ (Qa.ge HI585.out)|refine Q1 ?_ GE584.out|refine Q1 ?_ GE592.out)|exact HB.out)) hb);replace HI585:=Zk (Qa.below (by repeat (first|(with_reducible first|exact HI585.out|apply Qa.alloc|apply Qa.drewN|apply Qa.drew|apply Qa.set_1|apply Qa.set_2|refine Qa.far ?_ NB585_584.out _|refine Qa.far ?_ NB585_592.out _)|exact HI585.out)) hb);clear hb ho15;obtain ⟨Ao16,co16,eo16⟩:=Kd.R_slice HO595.out
 (first|subst eo16|(injection eo16 with f1_ f2_ f3_;have f4_:=f1_.symm;have f5_:=f3_.symm;clear f1_ f2_ f3_;subst f4_;subst f5_))
 refine hK.out _ _ ((Qb4 BK592.out 0).trans rfl) (fun hHeld=> ?_);clear hK K;refine Qix (a':= ?_) ?_ ?_;rotate_left
 ·
  show Act.put _ (some 19) _=_
  simp only [Act.put,List.setIfInBounds_toArray,List.set_cons_zero,List.set_cons_succ,Qci,Qdb];rfl
 refine one_ (i:=4) (N:=some 20) #[true,true,true,true,true,false,false,false] rfl rfl (Qil HT_.out (by kernel_rfl)) (by decide) (fun K hK=> ?_);refine Qfe Try.func94 (by kernel_rfl) rfl #[.pointer (some ⟨gb585,0,none⟩), .slice Ao16 y593.length co16] (by rfl) rfl rfl (by (try simp only [List.map_toArray,List.map_cons,List.map_nil]);first|done|rfl|(simp only [List.length_drop,List.length_take];rfl)) ?_
 with_reducible refine (Qbh.calls gb585 l0 t590 t591 _ _ y593 t596 t597 t598 w _ ?side1 ?side2 ?side3 ?side4 ?side5 A3.out).mono ?_
 (case side1=>repeat (first|(with_reducible first|exact HI585.out|apply Qa.alloc|apply Qa.drewN|apply Qa.drew|apply Qa.set_1|apply Qa.set_2|refine Qa.far ?_ NB585_584.out _|refine Qa.far ?_ NB585_592.out _)|exact HI585.out))
 (case side2=>repeat (first|(with_reducible first|exact HB.out|apply Qq|apply Qw|apply Qbb|refine Q1 ?_ (Qa.ge HI585.out)|refine Q1 ?_ GE584.out|refine Q1 ?_ GE592.out)|exact HB.out))
 (case side3=>repeat (first|exact (Kd.R_reads' HO595.out).2.2|(with_reducible refine Kd.C_alloc ?_ _)|(with_reducible refine Kd.C_drewN ?_ _)|(with_reducible refine Kd.C_drew ?_)))
 (case side4=>exact (Kd.R_reads' HO595.out).2.1)
 (case side5=>exact Qeh (Qa.own_ne HI585.out HO595.out (by decide)))
 rintro e w17 ⟨rfl,hi,hb,hk⟩;refine ⟨_,rfl,?_⟩;replace BK584:=Zk (Qj.blk hk (g':=gb584) (o:= .cells #[.slice none 0 0] 26 (0,0)) (by (with_reducible repeat (first|refine Qbp ?_ _|refine Qbj ?_|refine Qbk ?_ _));exact BK584.out) NB584_585.out (by simp));replace HO588:=Zk (Kd.R_mono (Kd.R_keep (Qa.apart (show Qa w _ gb585 l0 t590 t591 from by repeat (first|(with_reducible first|exact HI585.out|apply Qa.alloc|apply Qa.drewN|apply Qa.drew|apply Qa.set_1|apply Qa.set_2|refine Qa.far ?_ NB585_584.out _|refine Qa.far ?_ NB585_592.out _)|exact HI585.out)) (by (with_reducible repeat (first|apply Kd.R_alloc|apply Kd.R_drewN|apply Kd.R_drew));exact HO588.out) (by decide)) hk (fun _ h=>h.2)) (fun _ h=>h.1));replace BK592:=Zk (Qj.blk hk (g':=gb592) (o:= .cells #[.slice Ao8 t586.length co8] 26 (0,0)) (by (with_reducible repeat (first|refine Qbp ?_ _|refine Qbj ?_|refine Qbk ?_ _));exact BK592.out) NB592_585.out (by simp));replace HO595:=Zk (Kd.R_mono (Kd.R_keep (Qa.apart (show Qa w _ gb585 l0 t590 t591 from by repeat (first|(with_reducible first|exact HI585.out|apply Qa.alloc|apply Qa.drewN|apply Qa.drew|apply Qa.set_1|apply Qa.set_2|refine Qa.far ?_ NB585_584.out _|refine Qa.far ?_ NB585_592.out _)|exact HI585.out)) (by (with_reducible repeat (first|apply Kd.R_alloc|apply Kd.R_drewN|apply Kd.R_drew));exact HO595.out) (by decide)) hk (fun _ h=>h.2)) (fun _ h=>h.1));replace HB:=Zk (hb);replace HI585:=Zk (hi)
 (try clear hb)
 (try clear hb2)
 (try clear hk)
 (try clear hi)
 refine hK.out _ _ ((Qb4 BK592.out 0).trans rfl) (fun hHeld=> ?_);clear hK K;refine Qix (a':= ?_) ?_ ?_;rotate_left
 ·
  show Act.put _ (some 20) _=_
  simp only [Act.put,List.setIfInBounds_toArray,List.set_cons_zero,List.set_cons_succ,Qci,Qdb];rfl
 refine one_ (i:=5) (N:=none) #[true,true,true,true,true,true,false,false] rfl rfl (Qil HT_.out (by kernel_rfl)) (by decide) (fun K hK=> ?_);have hs18:w17.cell? ⟨gb584,0,none⟩=some (.slice none 0 0):=(Qb4 BK584.out 0).trans rfl;have hfs18:=Qg BK584.out 0;have hns18_1:=NB592_584.out;have hms18_1:=NB584_592.out;refine skip_ (w1:= ?_) (by rfl) rfl ?_ ?_;rotate_left
 ·
  go_simp;rfl
 refine hK.out _ _ (((cell_far (p:=⟨gb584,_,none⟩) NB592_584.out _).trans (hHeld))) (fun hHeld=> ?_);clear hK K;refine Qiz (i:=6) (N:=some 3) (v:= ?_) (a':= ?_) #[true,true,true,true,true,true,true,false] rfl rfl (Qia HT_.out (by kernel_rfl)) (fun _ _ _ h=>h) (Or.inl ⟨by rfl,?_⟩) ?_ ?_;rotate_left
 ·
  intro w';go_simp
  with_reducible rfl
 rotate_left
 ·
  simp only [Act.put,List.setIfInBounds_toArray,List.set_cons_zero,List.set_cons_succ,Qci,Qdb];rfl
 refine Qiz (i:=7) (N:=some 4) (v:= ?_) (a':= ?_) #[true,true,true,true,true,true,true,true] rfl rfl (Qia HT_.out (by kernel_rfl)) (fun _ _ _ h=>h) (Or.inl ⟨by rfl,?_⟩) ?_ ?_;rotate_left
 ·
  intro w';go_simp
  with_reducible rfl
 rotate_left
 ·
  simp only [Act.put,List.setIfInBounds_toArray,List.set_cons_zero,List.set_cons_succ,Qci,Qdb];rfl
 refine done_ (Qnw HT_.out (by kernel_rfl)) ?_
 try go_wp2
 refine bodyPost_ret (Qew rfl _ _ gb584 26 #[.slice Ao8 t586.length co8] (0,0) _ rfl (by (with_reducible repeat (first|refine Qbp ?_ _|refine Qbj ?_|refine Qbk ?_ _));refine Qfk (cs:= #[.slice none 0 0]) ?_ 0 _ rfl;(with_reducible repeat (first|refine Qbp ?_ _|refine Qbj ?_|refine Qbk ?_ _));exact BK584.out) Try.underlying26 rfl (by kernel_rfl)) rfl ?_;exact ⟨_,by first|rfl|(simp [Qe,Qf] <;>rfl)|(simp [*,Qe,Qf] <;>rfl),by (with_reducible repeat (first|apply Kd.R_alloc|apply Kd.R_drewN|apply Kd.R_drew));exact Kd.R_mono (Kd.R_far (p:=⟨gb584,0,none⟩) (Kd.R_types HO588.out BK584.out (by decide)) (fun _ hk=>hk.2) (.slice Ao8 t586.length co8)) (fun _ hk=>trivial),by repeat (first|(with_reducible first|exact HB.out|apply Qq|apply Qw|apply Qbb|refine Q1 ?_ (Qa.ge HI585.out)|refine Q1 ?_ GE584.out|refine Q1 ?_ GE592.out)|exact HB.out)⟩
end Go.Proofs.Ytkgngggppcmpfaa.L
end
section
namespace Go.Proofs.Ytkgngggppcmpfaa.L
open Go.RowKit Go.Proofs.YtkgngggppcmpfaaW.PrintWords Go.Proofs.YtkgngggppcmpfaaW.PrintLast Go.Proofs.YtkgngggppcmpfaaW.PrintMore Go.Proofs.Ytkgngggppcmpfaa.X
attribute [local go_sem] Qbd Qbf Qbn Qbo Q3 Q4 Qbe Qbg
set_option linter.unusedVariables false
set_option linter.unusedSimpArgs false
mutual
def Qv.j0:Nat→Int→Int→Bool→List Int→Option (List Int × Bool)
 |0,_,_,_,_=>none
 |k+1,x1,x2,x19,x600000=>if x19=true then (some (([] :List Int),false)) else ((Qb1.f x600000).bind fun t605=>(Qv.l0 k x1 x2 (([] :List Int)) t605 0))
def Qv.l0:Nat→Int→Int→List Int→Int→Int→Option (List Int × Bool)
 |0,_,_,_,_,_=>none
 |k+1,x1,x2,x8,x22,x23=>if x23<x22 then ((Qel.f x1 x23).bind fun t606=>(if t606=true then (if x8.length<17592186044416 then (Qv.l0 k x1 x2 (x8++ [0]) x22 (wrap64 (x23+1))) else (none)) else (if x8.length<17592186044416 then (Qv.l0 k x1 x2 (x8++ [x2]) x22 (wrap64 (x23+1))) else (none)))) else (some (x8,true))
end
def Qv.f (k:Nat) (l0_0:List Int) (a1:Int) (a2:Int):Option (List Int × Bool):=(Qcj.f k l0_0 a2).bind fun t600=>(if t600=true then ((Qcr.f k l0_0 a1).bind fun t601=>(Qv.j0 k a1 a2 (!t601) l0_0)) else (Qv.j0 k a1 a2 true l0_0))
theorem Qv.mono_l: ∀ k,(∀ y0 y1 y2 y3,LeO (Qv.j0 k y0 y1 y2 y3) (Qv.j0 (k+1) y0 y1 y2 y3))∧(∀ y0 y1 y2 y3 y4,LeO (Qv.l0 k y0 y1 y2 y3 y4) (Qv.l0 (k+1) y0 y1 y2 y3 y4))
 |0=>⟨fun _ _ _ _ r h=>by simp [Qv.j0] at h,fun _ _ _ _ _ r h=>by simp [Qv.l0] at h⟩
 |k+1=>by
  obtain ⟨ih0,ih1⟩:=Qv.mono_l k;refine ⟨?_,?_⟩
  all_goals
   intros
   first|unfold Qv.j0|unfold Qv.l0
   repeat' (with_reducible first|apply ih0|apply ih1|apply Qcj.mono|apply Qcr.mono|exact LeO.refl _|exact LeO.none _|refine LeO.ite ?_ ?_|refine LeO.bind ?_ (fun _=> ?_))
theorem Qv.mono: ∀ a0 a1 a2 k,LeO (Qv.f k a0 a1 a2) (Qv.f (k+1) a0 a1 a2):=by
 intro a0 a1 a2 k;obtain ⟨ih0,ih1⟩:=Qv.mono_l k;unfold Qv.f
 repeat' (with_reducible first|apply ih0|apply ih1|apply Qcj.mono|apply Qcr.mono|exact LeO.refl _|exact LeO.none _|refine LeO.ite ?_ ?_|refine LeO.bind ?_ (fun _=> ?_))
set_option maxHeartbeats 8000000 in
set_option maxRecDepth 100000 in
theorem Qv.calls (k:Nat) (A0_0:Option Addr) (c0_0:Nat) (l0_0:List Int) (a1:Int) (a2:Int) (r1:List Int) (r2:Bool) (w:World) (hr0_0:Kd.C (Kd.int .i64) w A0_0 l0_0.length l0_0) (hc0_0:l0_0.length≤c0_0) (h:Qv.f k l0_0 a1 a2=some (r1,r2)):
 Calls Try.prog 46 #[.agg #[.slice A0_0 l0_0.length c0_0], .int .i64 a1, .int .i64 a2] w fun e w'=> ∃ v0_:Value,e= .returned (.tuple #[v0_, .bool r2])∧Kd.R (Kd.int .i64) 3 w' w.heap.size (fun _=>True) v0_ r1∧Below w.heap.size w w':=by
 have hu26:=Try.underlying26;have HR0_0:=Zk hr0_0;have HC0_0:=Zk hc0_0;clear hr0_0 hc0_0;have HB:=Zk (Below.refl w.heap.size w);have H:((Qcj.f k l0_0 a2).bind fun t600=>(if t600=true then ((Qcr.f k l0_0 a1).bind fun t601=>(Qv.j0 k a1 a2 (!t601) l0_0)) else (Qv.j0 k a1 a2 true l0_0)))=some (r1,r2):=h;clear h;have HC4:=Zk H;clear H;go_enter Try.func46,Try.ntmps46;go_upto_region 1 with (first|(refine bE (N:=3) (cs:= #[.slice A0_0 l0_0.length c0_0]) (t:=26) ?_;intro gb599 hg w5 hbox hb;have BK599:=Zk (hbox);have GW599:=Zk ((by rw [hg];exact (Qh (uB HB)):w.heap.size≤gb599));have GE599:=GW599;replace HB:=Zk (Qc (uB HB) hb);clear hb hbox hg))
 (try simp only [Act.put,List.setIfInBounds_toArray,List.set_cons_zero,List.set_cons_succ])
 go_cut [19] (fun v19 wc=> ∃ (kq:Nat) (x19_3:Bool),v19= .bool x19_3∧Z0 (Qv.j0 kq a1 a2 x19_3 l0_0=some (r1,r2))∧Z0 (kq≤k)∧Z0 (wc.heap[gb599]? =some (.cells #[(.slice A0_0 l0_0.length c0_0)] 26 (0,0)))∧Z0 (Below w.heap.size w wc))
 case first=>
  have H:=HC4.out;clear HC4;obtain ⟨t600,A6,H⟩:=bs H;(try dsimp only at H)
  by_cases c7:t600=true
  ·
   subst c7;rw [if_pos rfl] at H;obtain ⟨t601,A8,H⟩:=bs H;(try dsimp only at H)
   have H':=Zk H;clear H;have hcz9_0:=bC BK599;have hfz9_0:=Qg BK599.out 0;go_wp2_with (first|(refine gA (some 12) Try.func77 #[.agg #[.slice A0_0 l0_0.length c0_0], .int .i64 a2] ?_;(with_reducible refine (Qcj.calls k _ _ l0_0 a2 true _ (uD HR0_0 HB) HC0_0.out A6.out).mono ?_);rintro e w10 ⟨rfl,hb⟩;refine ⟨_,rfl,?_⟩;replace BK599:=Zk (Qd (uK BK599) hb);replace HB:=Zk (Qc (vB HB) hb);(try clear hb);have hcz11_0:=bC BK599;have hfz11_0:=Qg BK599.out 0)|(go_at_call 103;(with_reducible refine (Qcr.calls k _ _ l0_0 a1 t601 _ (uD HR0_0 HB) HC0_0.out A8.out).mono ?_);rintro e w12 ⟨rfl,hb⟩;replace BK599:=Zk (Qd (uK BK599) hb);replace HB:=Zk (Qc (vB HB) hb);(try clear hb)))
   go_meet
   case rel=>exact ⟨_,(!t601),(by first|rfl|(simp;done)|(simp [*];done)),H',⟨by first|omega|exact Nat.le_refl _⟩,⟨uK BK599⟩,⟨(vB HB)⟩⟩
  ·
   replace c7:=Bool.eq_false_iff.mpr c7;subst c7;rw [if_neg (show ¬ (false=true) by decide)] at H;have H':=Zk H;clear H;have hcz13_0:=bC BK599;have hfz13_0:=Qg BK599.out 0;go_wp2_with (first|(refine gA (some 12) Try.func77 #[.agg #[.slice A0_0 l0_0.length c0_0], .int .i64 a2] ?_;(with_reducible refine (Qcj.calls k _ _ l0_0 a2 false _ (uD HR0_0 HB) HC0_0.out A6.out).mono ?_);rintro e w14 ⟨rfl,hb⟩;refine ⟨_,rfl,?_⟩;replace BK599:=Zk (Qd (uK BK599) hb);replace HB:=Zk (Qc (vB HB) hb);(try clear hb)))
   go_meet
   case rel=>exact ⟨_,(true),(by first|rfl|(simp;done)|(simp [*];done)),H',⟨by first|omega|exact Nat.le_refl _⟩,⟨uK BK599⟩,⟨(vB HB)⟩⟩
 case rest=>
  clear HC4
  skip
  obtain ⟨kq,x19_3,rfl,HA,HJ3,BK599,HB⟩:=hcut;cases kq with
  |zero=>exact absurd HA.out (by simp [Qv.j0])
  |succ kj3=>
   have H:=HA.out;clear HA;simp only [Qv.j0] at H
   by_cases c15:x19_3=true
   ·
    subst c15;rw [if_pos rfl] at H;simp only [Option.some.injEq,Prod.mk.injEq] at H;obtain ⟨rfl,rfl⟩:=H;go_wp2
    go_ret2
    exact ⟨_,by first|rfl|(simp [Qe,Qf] <;>rfl)|(simp [*,Qe,Qf] <;>rfl),by first|exact Kd.R_nil _ _ _ _ _|exact Kd.N_nil _ _ _ _ _|exact Kd.V_nil _ _ _ _ _|exact Kd.Q_nil _ _ _ _ _|exact Kd.S_nil _ _ _ _ _,(vB HB)⟩
   ·
    replace c15:=Bool.eq_false_iff.mpr c15;subst c15;rw [if_neg (show ¬ (false=true) by decide)] at H;obtain ⟨y602,hy602⟩: ∃ y_:List Int,y_=(([] :List Int)):=⟨_,rfl⟩
    replace H:((Qb1.f l0_0).bind fun t605=>(Qv.l0 kj3 a1 a2 y602 t605 0))=some (r1,r2):=by first|(rw [hy602];with_reducible exact H)|(have H2_:=(Option.bind_some _ _).symm.trans H;rw [hy602];with_reducible exact H2_)|(have H2_:=(Option.bind_some _ _).symm.trans H;with_reducible exact H2_)|with_reducible exact H|(rw [hy602];exact H)|exact H
    have Ny602:=Zk hy602;clear hy602;obtain ⟨t605,A16,H⟩:=bs H;(try dsimp only at H)
    have H':=Zk H;clear H;go_wp2_with (first|((with_reducible refine Qb2 (N:=20) rfl ?_);refine Kd.R_lit (Kd.int .i64) _ 3 ?hg (N:=20) ?hd (xs:=([] :List Int)) (inner:= []) (ok:=fun _=>True) (okp:=fun _=>True) ?hr ?hp (fun _ hk=>hk) trivial (Below.refl _ _) (Nat.le_refl _) (by simp) ?_;(case hd=>rfl);(case hg=>rfl);(case hr=>first|(go_simp;done)|(go_simp;rfl));(case hp=>exact (Reps.none _ _));intro v603 w17 ho18 hb hg_ hnew_;clear hg_ hnew_;(first|rw [←Ny602.out] at ho18|(simp only [Int.reduceToNat] at ho18;rw [←Ny602.out] at ho18));have HO604:=Zk (Kd.R_lower ho18 (Qh (vB HB)));replace BK599:=Zk (Qd (uK BK599) hb);replace HB:=Zk (Qc (vB HB) hb);clear hb ho18;have hcz19_0:=bC BK599;have hfz19_0:=Qg BK599.out 0)|(refine gA (some 22) Try.func65 #[.agg #[.slice A0_0 l0_0.length c0_0]] ?_;(with_reducible refine (Qb1.calls _ _ l0_0 t605 _ (uD HR0_0 HB) HC0_0.out A16.out).mono ?_);rintro e w20 ⟨rfl,hb⟩;refine ⟨_,rfl,?_⟩;replace HO604:=Zk (Kd.R_below (uR HO604) hb);replace BK599:=Zk (Qd (uK BK599) hb);replace HB:=Zk (Qc (vB HB) hb);(try clear hb)))
    go_loopg [8,23] kj3 (fun kq v8 v23 w'=> ∃ (x8_2:List Int) (x23_2:Int),v23= .int .i64 x23_2∧Z0 (Qv.l0 kq a1 a2 x8_2 t605 x23_2=some (r1,r2))∧Z0 (kq≤kj3)∧Z0 (Kd.R (Kd.int .i64) 3 w' w.heap.size (fun _=>True) v8 x8_2)∧Z0 (w'.heap[gb599]? =some (.cells #[(.slice A0_0 l0_0.length c0_0)] 26 (0,0)))∧Z0 (Below w.heap.size w w'))
    case atStart=>exact ⟨(y602),(0),(by first|rfl|(simp;done)|(simp [*];done)),H',⟨Nat.le_refl _⟩,⟨uR HO604⟩,⟨uK BK599⟩,⟨(vB HB)⟩⟩
    case round=>
     clear H'
     try clear hcz19_0 hfz19_0
     obtain ⟨x8_2,x23_2,rfl,HA,HK2,HO_8,BK599,HB⟩:=hrel;cases gk with
     |zero=>exact absurd HA.out (by simp [Qv.l0])
     |succ k2=>
      have H:=HA.out;clear HA;simp only [Qv.l0] at H
      by_cases c21:x23_2<t605
      ·
       rw [if_pos c21] at H;have c21b0:=decide_eq_true c21;clear c21;obtain ⟨t606,A22,H⟩:=bs H;(try dsimp only at H)
       by_cases c23:t606=true
       ·
        subst c23;rw [if_pos rfl] at H
        by_cases c24:x8_2.length<17592186044416
        ·
         rw [if_pos c24] at H;have LMc24:=Zk c24;clear c24;obtain ⟨y607,hy607⟩: ∃ y_:List Int,y_=(x8_2++ [0]):=⟨_,rfl⟩
         replace H:(Qv.l0 k2 a1 a2 y607 t605 (wrap64 (x23_2+1)))=some (r1,r2):=by first|(rw [hy607];with_reducible exact H)|(have H2_:=(Option.bind_some _ _).symm.trans H;rw [hy607];with_reducible exact H2_)|(have H2_:=(Option.bind_some _ _).symm.trans H;with_reducible exact H2_)|with_reducible exact H|(rw [hy607];exact H)|exact H
         have Ny607:=Zk hy607;clear hy607;have H':=Zk H;clear H;go_wp2_with (first|(refine gA (some 28) Try.func104 #[.int .i64 a1, .int .i64 x23_2] ?_;(with_reducible refine (Qel.calls a1 x23_2 true _ A22.out).mono ?_);rintro e w' ⟨rfl,⟨nd,rfl⟩⟩;refine ⟨_,rfl,?_⟩)|((with_reducible refine Qcl (b:= .append) (xs:= #[.tmp 29, .tmp 30]) rfl ?_);at_builtin;refine Kd.R_append (Kd.int .i64) (w0:=w) w.heap.size rfl (.tmp 29) (.tmp 30) 24 3 (.int .i64 0) 8 rfl Try.underlying24 Qed rfl (by decide) (by omega) u8 x8_2 0 [.int .i64 0] (fun _=>True) (fun _=>False) rfl rfl ?aP (fun _ hk=>hk.elim) ?aF ?aO ?aB ?aS ?aL ?_;(case aP=>exact rfl);(case aB=>exact (vB HB));(case aF=>exact (fun _ _=>trivial));(case aO=>exact (uR HO_8));(case aS=>exact (Qh (vB HB)));(case aL=>have:=LMc24.out;omega);intro v608 w25 ho hb hg hat;rw [←Ny607.out] at ho;replace BK599:=Zk (Qb8 (uK BK599) hg (Kd.R_ne HO_8.out BK599.out (by decide)));replace HB:=Zk (hb);have HO609:=Zk (ho);clear HO_8;clear ho hb hg hat));go_roundg k2
         case measure=>have:=HJ3.out;have:=HK2.out;omega
         case rel=>exact ⟨(y607),(wrap64 (x23_2+1)),(by first|rfl|(simp;done)|(simp [*];done)),H',⟨by have:=HJ3.out;have:=HK2.out;omega⟩,⟨uR HO609⟩,⟨uK BK599⟩,⟨(vB HB)⟩⟩
        ·
         rw [if_neg c24] at H;exact absurd H (by simp)
       ·
        replace c23:=Bool.eq_false_iff.mpr c23;subst c23;rw [if_neg (show ¬ (false=true) by decide)] at H
        by_cases c26:x8_2.length<17592186044416
        ·
         rw [if_pos c26] at H;have LMc26:=Zk c26;clear c26;obtain ⟨y610,hy610⟩: ∃ y_:List Int,y_=(x8_2++ [a2]):=⟨_,rfl⟩
         replace H:(Qv.l0 k2 a1 a2 y610 t605 (wrap64 (x23_2+1)))=some (r1,r2):=by first|(rw [hy610];with_reducible exact H)|(have H2_:=(Option.bind_some _ _).symm.trans H;rw [hy610];with_reducible exact H2_)|(have H2_:=(Option.bind_some _ _).symm.trans H;with_reducible exact H2_)|with_reducible exact H|(rw [hy610];exact H)|exact H
         have Ny610:=Zk hy610;clear hy610;have H':=Zk H;clear H;go_wp2_with (first|(refine gA (some 28) Try.func104 #[.int .i64 a1, .int .i64 x23_2] ?_;(with_reducible refine (Qel.calls a1 x23_2 false _ A22.out).mono ?_);rintro e w' ⟨rfl,⟨nd,rfl⟩⟩;refine ⟨_,rfl,?_⟩)|((with_reducible refine Qcl (b:= .append) (xs:= #[.tmp 32, .tmp 34]) rfl ?_);at_builtin;refine Kd.R_append (Kd.int .i64) (w0:=w) w.heap.size rfl (.tmp 32) (.tmp 34) 24 3 (.int .i64 0) 8 rfl Try.underlying24 Qed rfl (by decide) (by omega) u8 x8_2 a2 [.int .i64 a2] (fun _=>True) (fun _=>False) rfl rfl ?aP (fun _ hk=>hk.elim) ?aF ?aO ?aB ?aS ?aL ?_;(case aP=>exact rfl);(case aB=>exact (vB HB));(case aF=>exact (fun _ _=>trivial));(case aO=>exact (uR HO_8));(case aS=>exact (Qh (vB HB)));(case aL=>have:=LMc26.out;omega);intro v611 w27 ho hb hg hat;rw [←Ny610.out] at ho;replace BK599:=Zk (Qb8 (uK BK599) hg (Kd.R_ne HO_8.out BK599.out (by decide)));replace HB:=Zk (hb);have HO612:=Zk (ho);clear HO_8;clear ho hb hg hat));go_roundg k2
         case measure=>have:=HJ3.out;have:=HK2.out;omega
         case rel=>exact ⟨(y610),(wrap64 (x23_2+1)),(by first|rfl|(simp;done)|(simp [*];done)),H',⟨by have:=HJ3.out;have:=HK2.out;omega⟩,⟨uR HO612⟩,⟨uK BK599⟩,⟨(vB HB)⟩⟩
        ·
         rw [if_neg c26] at H;exact absurd H (by simp)
      ·
       rw [if_neg c21] at H;have c21b0:=decide_eq_false c21;clear c21;simp only [Option.some.injEq,Prod.mk.injEq] at H;obtain ⟨rfl,rfl⟩:=H;go_wp2
       go_ret2
       exact ⟨_,by first|rfl|(simp [Qe,Qf] <;>rfl)|(simp [*,Qe,Qf] <;>rfl),uR HO_8,(vB HB)⟩
def Qec.f (k:Nat) (l0_0:List Int) (a1:Int):Option (Bool):=(Qx.f k l0_0).bind fun t614=>(if t614=true then ((Qdk.f l0_0 a1).bind fun t615=>(if t615=true then ((Qbx.f k l0_0 a1).bind fun t616=>(some t616)) else (some false))) else (some false))
theorem Qec.mono: ∀ a0 a1 k,LeO (Qec.f k a0 a1) (Qec.f (k+1) a0 a1):=by
 intro a0 a1 k;unfold Qec.f
 repeat' (with_reducible first|apply Qx.mono|apply Qbx.mono|exact LeO.refl _|exact LeO.none _|refine LeO.ite ?_ ?_|refine LeO.bind ?_ (fun _=> ?_))
set_option maxHeartbeats 8000000 in
set_option maxRecDepth 100000 in
theorem Qec.calls (k:Nat) (A0_0:Option Addr) (c0_0:Nat) (l0_0:List Int) (a1:Int) (r:Bool) (w:World) (hr0_0:Kd.C (Kd.int .i64) w A0_0 l0_0.length l0_0) (hc0_0:l0_0.length≤c0_0) (h:Qec.f k l0_0 a1=some r):
 Calls Try.prog 105 #[.agg #[.slice A0_0 l0_0.length c0_0], .int .i64 a1] w fun e w'=>e= .returned (.bool r)∧Below w.heap.size w w':=by
 have hu26:=Try.underlying26;have HR0_0:=Zk hr0_0;have HC0_0:=Zk hc0_0;clear hr0_0 hc0_0;have HB:=Zk (Below.refl w.heap.size w);have H:((Qx.f k l0_0).bind fun t614=>(if t614=true then ((Qdk.f l0_0 a1).bind fun t615=>(if t615=true then ((Qbx.f k l0_0 a1).bind fun t616=>(some t616)) else (some false))) else (some false)))=some r:=h;clear h;obtain ⟨t614,A3,H⟩:=bs H;(try dsimp only at H)
 by_cases c4:t614=true
 ·
  subst c4;rw [if_pos rfl] at H;obtain ⟨t615,A5,H⟩:=bs H;(try dsimp only at H)
  by_cases c6:t615=true
  ·
   subst c6;rw [if_pos rfl] at H;obtain ⟨t616,A7,H⟩:=bs H;(try dsimp only at H)
   obtain rfl:=Option.some.inj H;go_enter Try.func105,Try.ntmps105;go_wp2_with (first|(refine bE (N:=2) (cs:= #[.slice A0_0 l0_0.length c0_0]) (t:=26) ?_;intro gb613 hg w8 hbox hb;have BK613:=Zk (hbox);have GW613:=Zk ((by rw [hg];exact (Qh (uB HB)):w.heap.size≤gb613));have GE613:=GW613;replace HB:=Zk (Qc (uB HB) hb);clear hb hbox hg;have hcz9_0:=bC BK613;have hfz9_0:=Qg BK613.out 0)|(refine gA (some 6) Try.func88 #[.agg #[.slice A0_0 l0_0.length c0_0]] ?_;(with_reducible refine (Qx.calls k _ _ l0_0 true _ (uD HR0_0 HB) HC0_0.out A3.out).mono ?_);rintro e w10 ⟨rfl,hb⟩;refine ⟨_,rfl,?_⟩;replace BK613:=Zk (Qd (uK BK613) hb);replace HB:=Zk (Qc (vB HB) hb);(try clear hb);have hcz11_0:=bC BK613;have hfz11_0:=Qg BK613.out 0)|(go_at_call 100;(with_reducible refine (Qdk.calls _ _ l0_0 a1 true _ (uD HR0_0 HB) HC0_0.out A5.out).mono ?_);rintro e w12 ⟨rfl,hb⟩;replace BK613:=Zk (Qd (uK BK613) hb);replace HB:=Zk (Qc (vB HB) hb);(try clear hb);have hcz13_0:=bC BK613;have hfz13_0:=Qg BK613.out 0)|(go_at_call 101;(with_reducible refine (Qbx.calls k _ _ l0_0 a1 t616 _ (uD HR0_0 HB) HC0_0.out A7.out).mono ?_);rintro e w14 ⟨rfl,hb⟩;replace BK613:=Zk (Qd (uK BK613) hb);replace HB:=Zk (Qc (vB HB) hb);(try clear hb)))
   go_ret
   exact ⟨by first|rfl|(simp [Qe,Qf] <;>rfl)|(simp [*,Qe,Qf] <;>rfl),(vB HB)⟩
  ·
   replace c6:=Bool.eq_false_iff.mpr c6;subst c6;rw [if_neg (show ¬ (false=true) by decide)] at H;obtain rfl:=Option.some.inj H;go_enter Try.func105,Try.ntmps105;go_wp2_with (first|(refine bE (N:=2) (cs:= #[.slice A0_0 l0_0.length c0_0]) (t:=26) ?_;intro gb613 hg w15 hbox hb;have BK613:=Zk (hbox);have GW613:=Zk ((by rw [hg];exact (Qh (uB HB)):w.heap.size≤gb613));have GE613:=GW613;replace HB:=Zk (Qc (uB HB) hb);clear hb hbox hg;have hcz16_0:=bC BK613;have hfz16_0:=Qg BK613.out 0)|(refine gA (some 6) Try.func88 #[.agg #[.slice A0_0 l0_0.length c0_0]] ?_;(with_reducible refine (Qx.calls k _ _ l0_0 true _ (uD HR0_0 HB) HC0_0.out A3.out).mono ?_);rintro e w17 ⟨rfl,hb⟩;refine ⟨_,rfl,?_⟩;replace BK613:=Zk (Qd (uK BK613) hb);replace HB:=Zk (Qc (vB HB) hb);(try clear hb);have hcz18_0:=bC BK613;have hfz18_0:=Qg BK613.out 0)|(go_at_call 100;(with_reducible refine (Qdk.calls _ _ l0_0 a1 false _ (uD HR0_0 HB) HC0_0.out A5.out).mono ?_);rintro e w19 ⟨rfl,hb⟩;replace BK613:=Zk (Qd (uK BK613) hb);replace HB:=Zk (Qc (vB HB) hb);(try clear hb)))
   go_ret
   exact ⟨by first|rfl|(simp [Qe,Qf] <;>rfl)|(simp [*,Qe,Qf] <;>rfl),(vB HB)⟩
 ·
  replace c4:=Bool.eq_false_iff.mpr c4;subst c4;rw [if_neg (show ¬ (false=true) by decide)] at H;obtain rfl:=Option.some.inj H;go_enter Try.func105,Try.ntmps105;go_wp2_with (first|(refine bE (N:=2) (cs:= #[.slice A0_0 l0_0.length c0_0]) (t:=26) ?_;intro gb613 hg w20 hbox hb;have BK613:=Zk (hbox);have GW613:=Zk ((by rw [hg];exact (Qh (uB HB)):w.heap.size≤gb613));have GE613:=GW613;replace HB:=Zk (Qc (uB HB) hb);clear hb hbox hg;have hcz21_0:=bC BK613;have hfz21_0:=Qg BK613.out 0)|(refine gA (some 6) Try.func88 #[.agg #[.slice A0_0 l0_0.length c0_0]] ?_;(with_reducible refine (Qx.calls k _ _ l0_0 false _ (uD HR0_0 HB) HC0_0.out A3.out).mono ?_);rintro e w22 ⟨rfl,hb⟩;refine ⟨_,rfl,?_⟩;replace BK613:=Zk (Qd (uK BK613) hb);replace HB:=Zk (Qc (vB HB) hb);(try clear hb)))
  go_ret
  exact ⟨by first|rfl|(simp [Qe,Qf] <;>rfl)|(simp [*,Qe,Qf] <;>rfl),(vB HB)⟩
end Go.Proofs.Ytkgngggppcmpfaa.L
end
