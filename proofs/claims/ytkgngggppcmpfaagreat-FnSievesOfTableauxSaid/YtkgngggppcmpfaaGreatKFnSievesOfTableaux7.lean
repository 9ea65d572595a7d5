/- Laws about the given program: the law FnSievesOfTableaux answers true for every input that its row lets in; no condition is added to the given statement. Contracts of the Go functions that it reaches, and the plain proof over lists. -/
import Derived.Test.YtkgngggppcmpfaaGreatWFnSievesOfTableaux0
import Derived.Test.YtkgngggppcmpfaaGreatKFnSievesOfTableaux0
import Derived.Test.YtkgngggppcmpfaaGreatKFnSievesOfTableaux1
import Derived.Test.YtkgngggppcmpfaaGreatKFnSievesOfTableaux2
import Derived.Test.YtkgngggppcmpfaaGreatKFnSievesOfTableaux3
import Derived.Test.YtkgngggppcmpfaaGreatKFnSievesOfTableaux4
import Derived.Test.YtkgngggppcmpfaaGreatKFnSievesOfTableaux5
import Derived.Test.YtkgngggppcmpfaaGreatKFnSievesOfTableaux6
section
namespace Go.Proofs.YtkgngggppcmpfaaGreat.L
open Go.RowKit Go.Proofs.YtkgngggppcmpfaaGreatW.PrintWords Go.Proofs.YtkgngggppcmpfaaGreatW.PrintLast Go.Proofs.YtkgngggppcmpfaaGreatW.PrintMore Go.Proofs.YtkgngggppcmpfaaGreat.X
attribute [local go_sem] Qy Q0 Qbb Qbc Qp Qq Qz Q1
set_option linter.unusedVariables false
set_option linter.unusedSimpArgs false
def Qe4.f (a0:Int):Option (Bool):=(Qbz.f a0 0 60).bind fun t630=>(some t630)
set_option maxHeartbeats 8000000 in
set_option maxRecDepth 100000 in
theorem Qe4.calls (a0:Int) (r:Bool) (w:World) (h:Qe4.f a0=some r):
 Calls Tryz.prog 215 #[.int .i64 a0] w fun e w'=>e= .returned (.bool r)∧Drawn0 w w':=by
 have H:((Qbz.f a0 0 60).bind fun t630=>(some t630))=some r:=h;clear h;obtain ⟨t630,A2,H⟩:=bs H;(try dsimp only at H)
 obtain rfl:=Option.some.inj H;go_enter Tryz.func215,Tryz.ntmps215;go_wp2_with (first|(refine gA (some 4) Tryz.func192 #[.int .i64 a0, .int .i64 0, .int .i64 60] ?_;(with_reducible refine (Qbz.calls a0 0 60 t630 _ A2.out).mono ?_);rintro e w' ⟨rfl,⟨nd,rfl⟩⟩;refine ⟨_,rfl,?_⟩))
 go_ret
 exact ⟨by first|rfl|(simp;done)|(simp [*];done),by repeat (first|exact Drawn0.refl _|apply Drawn0.step)⟩
mutual
def Qba.j0:Nat→Int→Bool→List Int→Option (Int × Bool)
 |0,_,_,_=>none
 |k+1,x1,x18,x632000=>if x18=true then (some (0,false)) else ((Qcv.f k x632000).bind fun bt634=>(if bt634.2=true then (Qba.l0 k x1 0 bt634.1 (bt634.1.length:Int) 0 x632000) else (some (0,false))))
def Qba.l0:Nat→Int→Int→List (List Int)→Int→Int→List Int→Option (Int × Bool)
 |0,_,_,_,_,_,_=>none
 |k+1,x1,x8,x26,x27,x28,x632000=>if x28<x27 then (if 0≤x28 then (if x28<(x26.length:Int) then ((Q8.f k x632000 (Qo x26 x28) x1).bind fun t639=>((Qca.f k t639 (Qo x26 x28)).bind fun t642=>(if t642=true then (Qba.l0 k x1 (wrap64 (x8+1)) x26 x27 (wrap64 (x28+1)) x632000) else (Qba.l0 k x1 x8 x26 x27 (wrap64 (x28+1)) x632000)))) else (none)) else (none)) else (some (x8,true))
end
def Qba.f (k:Nat) (l0_0:List Int) (a1:Int):Option (Int × Bool):=(Qbm.f k l0_0).bind fun t632=>(if t632=true then ((Qbz.f a1 0 100).bind fun t633=>(Qba.j0 k a1 (!t633) l0_0)) else (Qba.j0 k a1 true l0_0))
theorem Qba.mono_l: ∀ k,(∀ y0 y1 y2,LeO (Qba.j0 k y0 y1 y2) (Qba.j0 (k+1) y0 y1 y2))∧(∀ y0 y1 y2 y3 y4 y5,LeO (Qba.l0 k y0 y1 y2 y3 y4 y5) (Qba.l0 (k+1) y0 y1 y2 y3 y4 y5))
 |0=>⟨fun _ _ _ r h=>by simp [Qba.j0] at h,fun _ _ _ _ _ _ r h=>by simp [Qba.l0] at h⟩
 |k+1=>by
  obtain ⟨ih0,ih1⟩:=Qba.mono_l k;refine ⟨?_,?_⟩
  all_goals
   intros
   first|unfold Qba.j0|unfold Qba.l0
   repeat' (with_reducible first|apply ih0|apply ih1|apply Qca.mono|apply Qcv.mono|apply Q8.mono|apply Qbm.mono|exact LeO.refl _|exact LeO.none _|refine LeO.ite ?_ ?_|refine LeO.bind ?_ (fun _=> ?_))
theorem Qba.mono: ∀ a0 a1 k,LeO (Qba.f k a0 a1) (Qba.f (k+1) a0 a1):=by
 intro a0 a1 k;obtain ⟨ih0,ih1⟩:=Qba.mono_l k;unfold Qba.f
 repeat' (with_reducible first|apply ih0|apply ih1|apply Qca.mono|apply Qcv.mono|apply Q8.mono|apply Qbm.mono|exact LeO.refl _|exact LeO.none _|refine LeO.ite ?_ ?_|refine LeO.bind ?_ (fun _=> ?_))
set_option maxHeartbeats 8000000 in
set_option maxRecDepth 100000 in
theorem Qba.calls (k:Nat) (A0_0:Option Addr) (c0_0:Nat) (l0_0:List Int) (a1:Int) (r1:Int) (r2:Bool) (w:World) (hr0_0:Kd.C (Kd.int .i64) w A0_0 l0_0.length l0_0) (hc0_0:l0_0.length≤c0_0) (h:Qba.f k l0_0 a1=some (r1,r2)):
 Calls Tryz.prog 275 #[.agg #[.slice A0_0 l0_0.length c0_0], .int .i64 a1] w fun e w'=>e= .returned (.tuple #[.int .i64 r1, .bool r2])∧Below w.heap.size w w':=by
 have hu26:=Tryz.underlying26;have HR0_0:=Zk hr0_0;have HC0_0:=Zk hc0_0;clear hr0_0 hc0_0;have HB:=Zk (Below.refl w.heap.size w);have H:((Qbm.f k l0_0).bind fun t632=>(if t632=true then ((Qbz.f a1 0 100).bind fun t633=>(Qba.j0 k a1 (!t633) l0_0)) else (Qba.j0 k a1 true l0_0)))=some (r1,r2):=h;clear h;have HC3:=Zk H;clear H;go_enter Tryz.func275,Tryz.ntmps275;go_upto_region 1 with (first|(refine bE (N:=2) (cs:= #[.slice A0_0 l0_0.length c0_0]) (t:=26) ?_;intro gb631 hg w4 hbox hb;have BK631:=Zk (hbox);have GW631:=Zk ((by rw [hg];exact (Qh (uB HB)):w.heap.size≤gb631));have GE631:=GW631;replace HB:=Zk (Qb (uB HB) hb);clear hb hbox hg))
 (try simp only [Act.put,List.setIfInBounds_toArray,List.set_cons_zero,List.set_cons_succ])
 go_cut [18] (fun v18 wc=> ∃ (kq:Nat) (x18_2:Bool),v18= .bool x18_2∧Z0 (Qba.j0 kq a1 x18_2 l0_0=some (r1,r2))∧Z0 (kq≤k)∧Z0 (wc.heap[gb631]? =some (.cells #[(.slice A0_0 l0_0.length c0_0)] 26 (0,0)))∧Z0 (Below w.heap.size w wc))
 case first=>
  have H:=HC3.out;clear HC3;obtain ⟨t632,A5,H⟩:=bs H;(try dsimp only at H)
  by_cases c6:t632=true
  ·
   subst c6;rw [if_pos rfl] at H;obtain ⟨t633,A7,H⟩:=bs H;(try dsimp only at H)
   have H':=Zk H;clear H;have hcz8_0:=bC BK631;have hfz8_0:=Q6 BK631.out 0;go_wp2_with (first|(refine gA (some 12) Tryz.func183 #[.agg #[.slice A0_0 l0_0.length c0_0]] ?_;(with_reducible refine (Qbm.calls k _ _ l0_0 true _ (uD HR0_0 HB) HC0_0.out A5.out).mono ?_);rintro e w9 ⟨rfl,hb⟩;refine ⟨_,rfl,?_⟩;replace BK631:=Zk (Qbg (uK BK631) hb);replace HB:=Zk (Qb (vB HB) hb);(try clear hb))|(go_at_call 192;(with_reducible refine (Qbz.calls a1 0 100 t633 _ A7.out).mono ?_);rintro e w' ⟨rfl,⟨nd,rfl⟩⟩))
   go_meet
   case rel=>exact ⟨_,(!t633),(by first|rfl|(simp;done)|(simp [*];done)),H',⟨by first|omega|exact Nat.le_refl _⟩,⟨uK BK631⟩,⟨(vB HB)⟩⟩
  ·
   replace c6:=Bool.eq_false_iff.mpr c6;subst c6;rw [if_neg (show ¬ (false=true) by decide)] at H;have H':=Zk H;clear H;have hcz10_0:=bC BK631;have hfz10_0:=Q6 BK631.out 0;go_wp2_with (first|(refine gA (some 12) Tryz.func183 #[.agg #[.slice A0_0 l0_0.length c0_0]] ?_;(with_reducible refine (Qbm.calls k _ _ l0_0 false _ (uD HR0_0 HB) HC0_0.out A5.out).mono ?_);rintro e w11 ⟨rfl,hb⟩;refine ⟨_,rfl,?_⟩;replace BK631:=Zk (Qbg (uK BK631) hb);replace HB:=Zk (Qb (vB HB) hb);(try clear hb)))
   go_meet
   case rel=>exact ⟨_,(true),(by first|rfl|(simp;done)|(simp [*];done)),H',⟨by first|omega|exact Nat.le_refl _⟩,⟨uK BK631⟩,⟨(vB HB)⟩⟩
 case rest=>
  clear HC3
  skip
  obtain ⟨kq,x18_2,rfl,HA,HJ2,BK631,HB⟩:=hcut;cases kq with
  |zero=>exact absurd HA.out (by simp [Qba.j0])
  |succ kj2=>
   have H:=HA.out;clear HA;simp only [Qba.j0] at H
   by_cases c12:x18_2=true
   ·
    subst c12;rw [if_pos rfl] at H;simp only [Option.some.injEq,Prod.mk.injEq] at H;obtain ⟨rfl,rfl⟩:=H;go_wp2
    go_ret2
    exact ⟨by first|rfl|(simp [Qe,Qf] <;>rfl)|(simp [*,Qe,Qf] <;>rfl),(vB HB)⟩
   ·
    replace c12:=Bool.eq_false_iff.mpr c12;subst c12;rw [if_neg (show ¬ (false=true) by decide)] at H;obtain ⟨⟨t634,t637⟩,A13,H⟩:=bs H;(try dsimp only at H)
    by_cases c14:t637=true
    ·
     subst c14;rw [if_pos rfl] at H;have H':=Zk H;clear H;have hcz15_0:=bC BK631;have hfz15_0:=Q6 BK631.out 0;go_wp2_with (first|(refine gA (some 21) Tryz.func269 #[.agg #[.slice A0_0 l0_0.length c0_0]] ?_;(with_reducible refine (Qcv.calls kj2 _ _ l0_0 t634 true _ (uD HR0_0 HB) HC0_0.out A13.out).mono ?_);rintro e w16 ⟨v635,rfl,ho0,hb⟩;refine ⟨_,rfl,?_⟩;have HO636:=Zk (Kd.S_lower ho0 (Qh (vB HB)));replace BK631:=Zk (Qbg (uK BK631) hb);replace HB:=Zk (Qb (vB HB) hb);(try clear hb ho0);obtain ⟨Ao17,co17,eo17⟩:=Kd.S_slice HO636.out;subst eo17))
     go_loopg [8,28] kj2 (fun kq v8 v28 w'=> ∃ (x8_2:Int) (x28_2:Int),v8= .int .i64 x8_2∧v28= .int .i64 x28_2∧Z0 (Qba.l0 kq a1 x8_2 t634 (t634.length:Int) x28_2 l0_0=some (r1,r2))∧Z0 (kq≤kj2)∧Z0 (Kd.S (Kd.slice 3 (Kd.int .i64)) 24 w' w.heap.size (fun _=>True) (.slice Ao17 t634.length co17) t634)∧Z0 (w'.heap[gb631]? =some (.cells #[(.slice A0_0 l0_0.length c0_0)] 26 (0,0)))∧Z0 (Below w.heap.size w w'))
     case atStart=>exact ⟨(0),(0),(by first|rfl|(simp;done)|(simp [*];done)),(by first|rfl|(simp;done)|(simp [*];done)),H',⟨Nat.le_refl _⟩,⟨uS HO636⟩,⟨uK BK631⟩,⟨(vB HB)⟩⟩
     case round=>
      clear H'
      try clear hcz15_0 hfz15_0
      obtain ⟨x8_2,x28_2,rfl,rfl,HA,HK2,HO_26,BK631,HB⟩:=hrel;cases gk with
      |zero=>exact absurd HA.out (by simp [Qba.l0])
      |succ k2=>
       have H:=HA.out;clear HA;simp only [Qba.l0] at H
       by_cases c18:x28_2<(t634.length:Int)
       ·
        rw [if_pos c18] at H;have c18b0:=decide_eq_true c18;clear c18
        by_cases c19:0≤x28_2
        ·
         rw [if_pos c19] at H;have c19b0:=decide_eq_true c19;clear c19
         by_cases c20:x28_2<(t634.length:Int)
         ·
          rw [if_pos c20] at H;have c20b0:=decide_eq_true c20;clear c20;obtain ⟨t639,A21,H⟩:=bs H;(try dsimp only at H)
          obtain ⟨t642,A22,H⟩:=bs H;(try dsimp only at H)
          by_cases c23:t642=true
          ·
           subst c23;rw [if_pos rfl] at H;have H':=Zk H;clear H;have p638:0≤(x28_2:Int):=of_decide_eq_true (by first|(with_reducible assumption)|assumption);have q638:x28_2<(t634.length:Int):=of_decide_eq_true (by first|(with_reducible assumption)|assumption);obtain ⟨ad638,A638_0,c638_0,e638,hx638_0,hl638_0,hi638_0⟩:=Qfg (Kd.S_reads' HO_26.out).2.2 x28_2 p638 q638;cases e638;obtain ⟨ce638,hce638,hMe638,hcc638⟩:=Kd.S_get HO_26.out [] x28_2 p638 (by first|exact q638|exact of_decide_eq_true (by first|(with_reducible assumption)|assumption)|(have e_:=(Kd.S_reads' HO_26.out).1;omega));obtain ⟨ve638_0,rfl,ge638_0⟩:=hMe638;have hv638_0:=hcc638 0 _ rfl;rw [Nat.add_zero,show ((Kd.slice 3 (Kd.int .i64))).sz=1 from rfl,Nat.mul_one] at hv638_0;replace hv638_0:=Option.some.inj (hv638_0.symm.trans hx638_0);rw [hv638_0] at ge638_0;have HL638_0:=Zk (show Kd.R (Kd.int .i64) 3 _ _ _ _ (Qo t634 x28_2) from ge638_0);clear hv638_0 ge638_0;clear hcc638 hce638;have HR638_0:=Zk hi638_0;have HC638_0:=Zk hl638_0;clear hi638_0 hl638_0;replace p638:=eq_true p638;replace q638:=eq_true q638;have hcz24_0:=bC BK631;have hfz24_0:=Q6 BK631.out 0;go_wp2_with (first|(refine gA (some 35) Tryz.func271 #[.agg #[.slice A0_0 l0_0.length c0_0], .slice A638_0 (Qo t634 x28_2).length c638_0, .int .i64 a1] ?_;(with_reducible refine (Q8.calls k2 _ _ l0_0 (fun k_=>some k_=(.slice A638_0 (Qo t634 x28_2).length c638_0:Value).ownBlock) _ _ (Qo t634 x28_2) a1 t639 _ (uD HR0_0 HB) HC0_0.out ?side3 A21.out).mono ?_);(case side3=>exact Kd.R_V (Kd.R_tight rfl (Kd.R_types (HL638_0.out) BK631.out (by decide))));rintro e w25 ⟨v640,rfl,ho0,hb⟩;refine ⟨_,rfl,?_⟩;replace HO_26:=Zk (Kd.S_elder' (uS HO_26) (Kd.R_base ho0) hb);have HO641:=Zk (Kd.R_lower (Kd.R_new' (Kd.R_mono (ok':=fun k_=>True) ho0 (fun _ hk_=>trivial)) (Kd.R_lt (uR HL638_0))) (Qh (vB HB)));replace HL638_0:=Zk (Kd.R_elder' (uR HL638_0) (Kd.R_base ho0) hb);replace BK631:=Zk (Qbg (uK BK631) hb);replace HR638_0:=Zk (Kd.C_below (by repeat (first|(with_reducible exact HR638_0.out)|(with_reducible refine Kd.C_alloc ?_ _)|(with_reducible refine Kd.C_drewN ?_ _)|(with_reducible refine Kd.C_drew ?_)|exact HR638_0.out)) hb);replace HB:=Zk (Qb (vB HB) hb);(try clear hb ho0);obtain ⟨Ao26,co26,eo26⟩:=Kd.R_slice HO641.out;subst eo26)|(refine gA (some 37) Tryz.func270 #[.slice Ao26 t639.length co26, .slice A638_0 (Qo t634 x28_2).length c638_0] ?_;(with_reducible refine (Qca.calls k2 _ _ t639 _ _ (Qo t634 x28_2) true _ (uE HO641) ?side2 ?side3 HC638_0.out A22.out).mono ?_);(case side2=>exact (Kd.R_reads' HO641.out).2.1);(case side3=>repeat (first|exact (by repeat (first|(with_reducible exact HR638_0.out)|(with_reducible refine Kd.C_alloc ?_ _)|(with_reducible refine Kd.C_drewN ?_ _)|(with_reducible refine Kd.C_drew ?_)|exact HR638_0.out))|(with_reducible refine Kd.C_alloc ?_ _)|(with_reducible refine Kd.C_drewN ?_ _)|(with_reducible refine Kd.C_drew ?_)));rintro e w' ⟨rfl,⟨nd,rfl⟩⟩;refine ⟨_,rfl,?_⟩));go_roundg k2
           case measure=>have:=HJ2.out;have:=HK2.out;omega
           case rel=>exact ⟨(wrap64 (x8_2+1)),(wrap64 (x28_2+1)),(by first|rfl|(simp;done)|(simp [*];done)),(by first|rfl|(simp;done)|(simp [*];done)),H',⟨by have:=HJ2.out;have:=HK2.out;omega⟩,⟨by (with_reducible repeat (first|apply Kd.S_alloc|apply Kd.S_drewN|apply Kd.S_drew));exact Kd.S_mono HO_26.out (fun _ hk=>trivial)⟩,⟨uK BK631⟩,⟨(vB HB)⟩⟩
          ·
           replace c23:=Bool.eq_false_iff.mpr c23;subst c23;rw [if_neg (show ¬ (false=true) by decide)] at H;have H':=Zk H;clear H;have p638:0≤(x28_2:Int):=of_decide_eq_true (by first|(with_reducible assumption)|assumption);have q638:x28_2<(t634.length:Int):=of_decide_eq_true (by first|(with_reducible assumption)|assumption);obtain ⟨ad638,A638_0,c638_0,e638,hx638_0,hl638_0,hi638_0⟩:=Qfg (Kd.S_reads' HO_26.out).2.2 x28_2 p638 q638;cases e638;obtain ⟨ce638,hce638,hMe638,hcc638⟩:=Kd.S_get HO_26.out [] x28_2 p638 (by first|exact q638|exact of_decide_eq_true (by first|(with_reducible assumption)|assumption)|(have e_:=(Kd.S_reads' HO_26.out).1;omega));obtain ⟨ve638_0,rfl,ge638_0⟩:=hMe638;have hv638_0:=hcc638 0 _ rfl;rw [Nat.add_zero,show ((Kd.slice 3 (Kd.int .i64))).sz=1 from rfl,Nat.mul_one] at hv638_0;replace hv638_0:=Option.some.inj (hv638_0.symm.trans hx638_0);rw [hv638_0] at ge638_0;have HL638_0:=Zk (show Kd.R (Kd.int .i64) 3 _ _ _ _ (Qo t634 x28_2) from ge638_0);clear hv638_0 ge638_0;clear hcc638 hce638;have HR638_0:=Zk hi638_0;have HC638_0:=Zk hl638_0;clear hi638_0 hl638_0;replace p638:=eq_true p638;replace q638:=eq_true q638;have hcz27_0:=bC BK631;have hfz27_0:=Q6 BK631.out 0;go_wp2_with (first|(refine gA (some 35) Tryz.func271 #[.agg #[.slice A0_0 l0_0.length c0_0], .slice A638_0 (Qo t634 x28_2).length c638_0, .int .i64 a1] ?_;(with_reducible refine (Q8.calls k2 _ _ l0_0 (fun k_=>some k_=(.slice A638_0 (Qo t634 x28_2).length c638_0:Value).ownBlock) _ _ (Qo t634 x28_2) a1 t639 _ (uD HR0_0 HB) HC0_0.out ?side3 A21.out).mono ?_);(case side3=>exact Kd.R_V (Kd.R_tight rfl (Kd.R_types (HL638_0.out) BK631.out (by decide))));rintro e w28 ⟨v640,rfl,ho0,hb⟩;refine ⟨_,rfl,?_⟩;replace HO_26:=Zk (Kd.S_elder' (uS HO_26) (Kd.R_base ho0) hb);have HO641:=Zk (Kd.R_lower (Kd.R_new' (Kd.R_mono (ok':=fun k_=>True) ho0 (fun _ hk_=>trivial)) (Kd.R_lt (uR HL638_0))) (Qh (vB HB)));replace HL638_0:=Zk (Kd.R_elder' (uR HL638_0) (Kd.R_base ho0) hb);replace BK631:=Zk (Qbg (uK BK631) hb);replace HR638_0:=Zk (Kd.C_below (by repeat (first|(with_reducible exact HR638_0.out)|(with_reducible refine Kd.C_alloc ?_ _)|(with_reducible refine Kd.C_drewN ?_ _)|(with_reducible refine Kd.C_drew ?_)|exact HR638_0.out)) hb);replace HB:=Zk (Qb (vB HB) hb);(try clear hb ho0);obtain ⟨Ao29,co29,eo29⟩:=Kd.R_slice HO641.out;subst eo29)|(refine gA (some 37) Tryz.func270 #[.slice Ao29 t639.length co29, .slice A638_0 (Qo t634 x28_2).length c638_0] ?_;(with_reducible refine (Qca.calls k2 _ _ t639 _ _ (Qo t634 x28_2) false _ (uE HO641) ?side2 ?side3 HC638_0.out A22.out).mono ?_);(case side2=>exact (Kd.R_reads' HO641.out).2.1);(case side3=>repeat (first|exact (by repeat (first|(with_reducible exact HR638_0.out)|(with_reducible refine Kd.C_alloc ?_ _)|(with_reducible refine Kd.C_drewN ?_ _)|(with_reducible refine Kd.C_drew ?_)|exact HR638_0.out))|(with_reducible refine Kd.C_alloc ?_ _)|(with_reducible refine Kd.C_drewN ?_ _)|(with_reducible refine Kd.C_drew ?_)));rintro e w' ⟨rfl,⟨nd,rfl⟩⟩;refine ⟨_,rfl,?_⟩));go_roundg k2
           case measure=>have:=HJ2.out;have:=HK2.out;omega
           case rel=>exact ⟨(x8_2),(wrap64 (x28_2+1)),(by first|rfl|(simp;done)|(simp [*];done)),(by first|rfl|(simp;done)|(simp [*];done)),H',⟨by have:=HJ2.out;have:=HK2.out;omega⟩,⟨by (with_reducible repeat (first|apply Kd.S_alloc|apply Kd.S_drewN|apply Kd.S_drew));exact Kd.S_mono HO_26.out (fun _ hk=>trivial)⟩,⟨uK BK631⟩,⟨(vB HB)⟩⟩
         ·
          rw [if_neg c20] at H;exact absurd H (by simp)
        ·
         rw [if_neg c19] at H;exact absurd H (by simp)
       ·
        rw [if_neg c18] at H;have c18b0:=decide_eq_false c18;clear c18;simp only [Option.some.injEq,Prod.mk.injEq] at H;obtain ⟨rfl,rfl⟩:=H;go_wp2
        go_ret2
        exact ⟨by first|rfl|(simp [Qe,Qf] <;>rfl)|(simp [*,Qe,Qf] <;>rfl),(vB HB)⟩
    ·
     replace c14:=Bool.eq_false_iff.mpr c14;subst c14;rw [if_neg (show ¬ (false=true) by decide)] at H;simp only [Option.some.injEq,Prod.mk.injEq] at H;obtain ⟨rfl,rfl⟩:=H;have hcz30_0:=bC BK631;have hfz30_0:=Q6 BK631.out 0;go_wp2_with (first|(refine gA (some 21) Tryz.func269 #[.agg #[.slice A0_0 l0_0.length c0_0]] ?_;(with_reducible refine (Qcv.calls kj2 _ _ l0_0 t634 false _ (uD HR0_0 HB) HC0_0.out A13.out).mono ?_);rintro e w31 ⟨v635,rfl,ho0,hb⟩;refine ⟨_,rfl,?_⟩;have HO636:=Zk (Kd.S_lower ho0 (Qh (vB HB)));replace BK631:=Zk (Qbg (uK BK631) hb);replace HB:=Zk (Qb (vB HB) hb);(try clear hb ho0)))
     go_ret2
     exact ⟨by first|rfl|(simp [Qe,Qf] <;>rfl)|(simp [*,Qe,Qf] <;>rfl),(vB HB)⟩
def Qbk.j0:Nat→Int→Int→Int→Bool→Option (Int × Bool)
 |0,_,_,_,_=>none
 |k+1,x0,x1,x2,x16=>if x16=true then (some (0,false)) else ((Qs.f k x0 x1).bind fun t645=>((Qba.f k t645 x2).bind fun bt648=>(some (bt648.1,bt648.2))))
def Qbk.f (k:Nat) (a0:Int) (a1:Int) (a2:Int):Option (Int × Bool):=(Qcu.f a0 a1).bind fun t643=>(if t643=true then ((Qe4.f a2).bind fun t644=>(Qbk.j0 k a0 a1 a2 (!t644))) else (Qbk.j0 k a0 a1 a2 true))
theorem Qbk.mono_l: ∀ k,(∀ y0 y1 y2 y3,LeO (Qbk.j0 k y0 y1 y2 y3) (Qbk.j0 (k+1) y0 y1 y2 y3))
 |0=>fun _ _ _ _ r h=>by simp [Qbk.j0] at h
 |k+1=>by
  have ih0:=Qbk.mono_l k
  ·
   intro y0 y1 y2 y3;unfold Qbk.j0
   repeat' first
   |(with_reducible exact ih0 _ _ _ _)
   |(with_reducible exact Qba.mono _ _ _)
   |(with_reducible exact Qs.mono _ _ _)
   |(with_reducible exact LeO.refl _)
   |(with_reducible exact LeO.none _)
   |(with_reducible refine LeO.ite ?_ ?_)
   |(with_reducible refine LeO.bind ?_ (fun _=> ?_))
   |exact ih0 _ _ _ _
   |exact Qba.mono _ _ _
   |exact Qs.mono _ _ _
   |exact LeO.none _
   |refine LeO.ite ?_ ?_
   |refine LeO.bind ?_ (fun _=> ?_)
theorem Qbk.mono: ∀ a0 a1 a2 k,LeO (Qbk.f k a0 a1 a2) (Qbk.f (k+1) a0 a1 a2):=by
 intro a0 a1 a2 k;have ih0:=Qbk.mono_l k;unfold Qbk.f
 repeat' (with_reducible first|apply ih0|apply Qba.mono|apply Qs.mono|exact LeO.refl _|exact LeO.none _|refine LeO.ite ?_ ?_|refine LeO.bind ?_ (fun _=> ?_))
set_option maxHeartbeats 8000000 in
set_option maxRecDepth 100000 in
theorem Qbk.calls (k:Nat) (a0:Int) (a1:Int) (a2:Int) (r1:Int) (r2:Bool) (w:World) (h:Qbk.f k a0 a1 a2=some (r1,r2)):
 Calls Tryz.prog 139 #[.int .i64 a0, .int .i64 a1, .int .i64 a2] w fun e w'=>e= .returned (.tuple #[.int .i64 r1, .bool r2])∧Below w.heap.size w w':=by
 have HB:=Zk (Below.refl w.heap.size w);have H:((Qcu.f a0 a1).bind fun t643=>(if t643=true then ((Qe4.f a2).bind fun t644=>(Qbk.j0 k a0 a1 a2 (!t644))) else (Qbk.j0 k a0 a1 a2 true)))=some (r1,r2):=h;clear h;have HC4:=Zk H;clear H;go_enter Tryz.func139,Tryz.ntmps139;go_upto_region 1 with (fail)
 go_cut [16] (fun v16 wc=> ∃ (kq:Nat) (x16_3:Bool),v16= .bool x16_3∧Z0 (Qbk.j0 kq a0 a1 a2 x16_3=some (r1,r2))∧Z0 (kq≤k)∧Z0 (Below w.heap.size w wc))
 case first=>
  have H:=HC4.out;clear HC4;obtain ⟨t643,A5,H⟩:=bs H;(try dsimp only at H)
  by_cases c6:t643=true
  ·
   subst c6;rw [if_pos rfl] at H;obtain ⟨t644,A7,H⟩:=bs H;(try dsimp only at H)
   have H':=Zk H;clear H;go_wp2_with (first|(refine gA (some 10) Tryz.func203 #[.int .i64 a0, .int .i64 a1] ?_;(with_reducible refine (Qcu.calls a0 a1 true _ A5.out).mono ?_);rintro e w' ⟨rfl,⟨nd,rfl⟩⟩;refine ⟨_,rfl,?_⟩)|(go_at_call 215;(with_reducible refine (Qe4.calls a2 t644 _ A7.out).mono ?_);rintro e w' ⟨rfl,⟨nd,rfl⟩⟩))
   go_meet
   case rel=>exact ⟨_,(!t644),(by first|rfl|(simp;done)|(simp [*];done)),H',⟨by first|omega|exact Nat.le_refl _⟩,⟨uB HB⟩⟩
  ·
   replace c6:=Bool.eq_false_iff.mpr c6;subst c6;rw [if_neg (show ¬ (false=true) by decide)] at H;have H':=Zk H;clear H;go_wp2_with (first|(refine gA (some 10) Tryz.func203 #[.int .i64 a0, .int .i64 a1] ?_;(with_reducible refine (Qcu.calls a0 a1 false _ A5.out).mono ?_);rintro e w' ⟨rfl,⟨nd,rfl⟩⟩;refine ⟨_,rfl,?_⟩))
   go_meet
   case rel=>exact ⟨_,(true),(by first|rfl|(simp;done)|(simp [*];done)),H',⟨by first|omega|exact Nat.le_refl _⟩,⟨uB HB⟩⟩
 case rest=>
  clear HC4
  skip
  obtain ⟨kq,x16_3,rfl,HA,HJ3,HB⟩:=hcut;cases kq with
  |zero=>exact absurd HA.out (by simp [Qbk.j0])
  |succ kj3=>
   have H:=HA.out;clear HA;simp only [Qbk.j0] at H
   by_cases c8:x16_3=true
   ·
    subst c8;rw [if_pos rfl] at H;simp only [Option.some.injEq,Prod.mk.injEq] at H;obtain ⟨rfl,rfl⟩:=H;go_wp2
    go_ret2
    exact ⟨by first|rfl|(simp [Qe,Qf] <;>rfl)|(simp [*,Qe,Qf] <;>rfl),uB HB⟩
   ·
    replace c8:=Bool.eq_false_iff.mpr c8;subst c8;rw [if_neg (show ¬ (false=true) by decide)] at H;obtain ⟨t645,A9,H⟩:=bs H;(try dsimp only at H)
    obtain ⟨⟨t648,t649⟩,A10,H⟩:=bs H;(try dsimp only at H)
    simp only [Option.some.injEq,Prod.mk.injEq] at H;obtain ⟨rfl,rfl⟩:=H;go_wp2_with (first|(refine gA (some 19) Tryz.func209 #[.int .i64 a0, .int .i64 a1] ?_;(with_reducible refine (Qs.calls kj3 a0 a1 t645 _ A9.out).mono ?_);rintro e w11 ⟨v646,rfl,ho0,hb⟩;refine ⟨_,rfl,?_⟩;have HO647:=Zk (Kd.R_lower ho0 (Qh (uB HB)));replace HB:=Zk (Qb (uB HB) hb);(try clear hb ho0);obtain ⟨Ao12,co12,eo12⟩:=Kd.R_slice HO647.out;subst eo12)|(refine gA (some 21) Tryz.func275 #[.agg #[.slice Ao12 t645.length co12], .int .i64 a2] ?_;(with_reducible refine (Qba.calls kj3 _ _ t645 a2 t648 t649 _ (uE HO647) ?side2 A10.out).mono ?_);(case side2=>exact (Kd.R_reads' HO647.out).2.1);rintro e w13 ⟨rfl,hb⟩;refine ⟨_,rfl,?_⟩;replace HO647:=Zk (Kd.R_below (uR HO647) hb);replace HB:=Zk (Qb (uB HB) hb);(try clear hb)))
    go_ret2
    exact ⟨by first|rfl|(simp [Qe,Qf] <;>rfl)|(simp [*,Qe,Qf] <;>rfl),uB HB⟩
mutual
def Qr.l0:Nat→List Int→Int→List Int→List Int→Int→Int→Option (List Int)
 |0,_,_,_,_,_,_=>none
 |k+1,x1,x2,x7,x19,x20,x21=>if x21<x20 then (if 0≤x21 then (if x21<(x19.length:Int) then (Qr.l1 k x1 x2 x7 (rd x19 x21) x2 x19 x20 x21) else (none)) else (none)) else (Qr.l2 k x2 x7 x1 (x1.length:Int) 0)
def Qr.l1:Nat→List Int→Int→List Int→Int→Int→List Int→Int→Int→Option (List Int)
 |0,_,_,_,_,_,_,_,_=>none
 |k+1,x1,x2,x7,x9,x10,x19,x20,x21=>if x10 ≥ x9 then (if 0≤x10 then (if x10<(x7.length:Int) then (if 0≤(wrap64 (x10 - x9)) then (if (wrap64 (x10 - x9))<(x7.length:Int) then (Qr.l1 k x1 x2 (x7.set (x10:Int).toNat (wrap64 ((rd x7 x10) - (rd x7 (wrap64 (x10 - x9)))))) x9 (wrap64 (x10 - 1)) x19 x20 x21) else (none)) else (none)) else (none)) else (none)) else (Qr.l0 k x1 x2 x7 x19 x20 (wrap64 (x21+1)))
def Qr.l2:Nat→Int→List Int→List Int→Int→Int→Option (List Int)
 |0,_,_,_,_,_=>none
 |k+1,x2,x7,x44,x45,x46=>if x46<x45 then (if 0≤x46 then (if x46<(x44.length:Int) then (Qr.l3 k x2 x7 (rd x44 x46) (rd x44 x46) x44 x45 x46) else (none)) else (none)) else (some x7)
def Qr.l3:Nat→Int→List Int→Int→Int→List Int→Int→Int→Option (List Int)
 |0,_,_,_,_,_,_,_=>none
 |k+1,x2,x7,x12,x13,x44,x45,x46=>if x13≤x2 then (if 0≤x13 then (if x13<(x7.length:Int) then (if 0≤(wrap64 (x13 - x12)) then (if (wrap64 (x13 - x12))<(x7.length:Int) then (Qr.l3 k x2 (x7.set (x13:Int).toNat (wrap64 ((rd x7 x13)+(rd x7 (wrap64 (x13 - x12)))))) x12 (wrap64 (x13+1)) x44 x45 x46) else (none)) else (none)) else (none)) else (none)) else (Qr.l2 k x2 x7 x44 x45 (wrap64 (x46+1)))
end
def Qr.f (k:Nat) (l0:List Int) (l1:List Int) (a2:Int):Option (List Int):=if 0≤(wrap64 (a2+1)) then (if (wrap64 (a2+1):Int).toNat≤35184372088832 then ((some (List.replicate (wrap64 (a2+1):Int).toNat 0:List Int)).bind fun y650=>(if 0<(y650.length:Int) then (Qr.l0 k l1 a2 (y650.set (0:Int).toNat 1) l0 (l0.length:Int) 0) else (none))) else (none)) else (none)
theorem Qr.mono_l: ∀ k,(∀ y0 y1 y2 y3 y4 y5,LeO (Qr.l0 k y0 y1 y2 y3 y4 y5) (Qr.l0 (k+1) y0 y1 y2 y3 y4 y5))∧(∀ y0 y1 y2 y3 y4 y5 y6 y7,LeO (Qr.l1 k y0 y1 y2 y3 y4 y5 y6 y7) (Qr.l1 (k+1) y0 y1 y2 y3 y4 y5 y6 y7))∧(∀ y0 y1 y2 y3 y4,LeO (Qr.l2 k y0 y1 y2 y3 y4) (Qr.l2 (k+1) y0 y1 y2 y3 y4))∧(∀ y0 y1 y2 y3 y4 y5 y6,LeO (Qr.l3 k y0 y1 y2 y3 y4 y5 y6) (Qr.l3 (k+1) y0 y1 y2 y3 y4 y5 y6))
 |0=>⟨fun _ _ _ _ _ _ r h=>by simp [Qr.l0] at h,fun _ _ _ _ _ _ _ _ r h=>by simp [Qr.l1] at h,fun _ _ _ _ _ r h=>by simp [Qr.l2] at h,fun _ _ _ _ _ _ _ r h=>by simp [Qr.l3] at h⟩
 |k+1=>by
  obtain ⟨ih0,ih1,ih2,ih3⟩:=Qr.mono_l k;refine ⟨?_,?_,?_,?_⟩
  all_goals
   intros
   first|unfold Qr.l0|unfold Qr.l1|unfold Qr.l2|unfold Qr.l3
   repeat' (with_reducible first|apply ih0|apply ih1|apply ih2|apply ih3|exact LeO.refl _|exact LeO.none _|refine LeO.ite ?_ ?_|refine LeO.bind ?_ (fun _=> ?_))
theorem Qr.mono: ∀ a0 a1 a2 k,LeO (Qr.f k a0 a1 a2) (Qr.f (k+1) a0 a1 a2):=by
 intro a0 a1 a2 k;obtain ⟨ih0,ih1,ih2,ih3⟩:=Qr.mono_l k;unfold Qr.f
 repeat' (with_reducible first|apply ih0|apply ih1|apply ih2|apply ih3|exact LeO.refl _|exact LeO.none _|refine LeO.ite ?_ ?_|refine LeO.bind ?_ (fun _=> ?_))
def Qr.T9:Bool × List (List Nat × List Nat):=(true,[([],[]),([],[]),([0,1],[0,1]),([2],[2]),([],[]),([],[]),([],[]),([5,6],[5,6]),([4,7],[4,7]),([8],[8]),([3,9],[3,9]),([0,1,0,1,2,3,4,5,6,7,8,9,10],[0,1]),([11,10,0,1,2,3,4,5,6,7,8,9,10],[10,11])])
def Qr.B9:List Nat:= [0,0,3,7,0,0,0,96,240,496,1023,2047,4095]
theorem Qr.tab9:rtab .any (Qfz Tryz.f204 9)=Qr.T9:=by kernel_rfl
theorem Qr.bits9:Qen Qr.T9.2 Qr.B9=true:=by kernel_rfl
def Qr.T17:Bool × List (List Nat × List Nat):=(true,[([],[]),([],[]),([0,1],[0,1]),([2],[2]),([],[]),([],[]),([],[]),([5,6],[5,6]),([4,7],[4,7]),([8],[8]),([3,9],[3,9]),([0,1,0,1,2,3,4,5,6,7,8,9,10],[0,1]),([11,10,0,1,2,3,4,5,6,7,8,9,10],[10,11])])
def Qr.B17:List Nat:= [0,0,3,7,0,0,0,96,240,496,1023,2047,4095]
theorem Qr.tab17:rtab .any (Qfz Tryz.f204 17)=Qr.T17:=by kernel_rfl
theorem Qr.bits17:Qen Qr.T17.2 Qr.B17=true:=by kernel_rfl
set_option maxHeartbeats 8000000 in
set_option maxRecDepth 100000 in
theorem Qr.calls (k:Nat) (A0:Option Addr) (c0:Nat) (l0:List Int) (A1:Option Addr) (c1:Nat) (l1:List Int) (a2:Int) (r:List Int) (w:World) (hr0:Kd.C (Kd.int .i64) w A0 l0.length l0) (hc0:l0.length≤c0) (hr1:Kd.C (Kd.int .i64) w A1 l1.length l1) (hc1:l1.length≤c1) (h:Qr.f k l0 l1 a2=some r):
 Calls Tryz.prog 204 #[.slice A0 l0.length c0, .slice A1 l1.length c1, .int .i64 a2] w fun e w'=> ∃ v0_:Value,e= .returned (v0_)∧Kd.R (Kd.int .i64) 3 w' w.heap.size (fun _=>True) v0_ r∧Below w.heap.size w w':=by
 have HR0:=Zk hr0;have HC0:=Zk hc0;clear hr0 hc0;have HR1:=Zk hr1;have HC1:=Zk hc1;clear hr1 hc1;have HB:=Zk (Below.refl w.heap.size w);have H:(if 0≤(wrap64 (a2+1)) then (if (wrap64 (a2+1):Int).toNat≤35184372088832 then ((some (List.replicate (wrap64 (a2+1):Int).toNat 0:List Int)).bind fun y650=>(if 0<(y650.length:Int) then (Qr.l0 k l1 a2 (y650.set (0:Int).toNat 1) l0 (l0.length:Int) 0) else (none))) else (none)) else (none))=some r:=h;clear h;obtain ⟨ji4,hji4⟩: ∃ j_:Int,(wrap64 (a2+1))=j_:=⟨_,rfl⟩
 replace H:(if 0≤(ji4) then (if (ji4:Int).toNat≤35184372088832 then ((some (List.replicate (ji4:Int).toNat 0:List Int)).bind fun y650=>(if 0<(y650.length:Int) then (Qr.l0 k l1 a2 (y650.set (0:Int).toNat 1) l0 (l0.length:Int) 0) else (none))) else (none)) else (none))=some r:=by first|(rw [hji4] at H;exact H)|(simp only [hji4] at H ⊢;exact H)
 have hji4w:(IntKind.i64.wrap (a2+1))=ji4:=(Qcm _).trans hji4
 by_cases c5:0≤(ji4)
 ·
  rw [if_pos c5] at H;have c5b0:=eq_true c5;have c5b1:=decide_eq_true c5;clear c5
  by_cases c6:(ji4:Int).toNat≤35184372088832
  ·
   rw [if_pos c6] at H;have c6b0:=eq_true c6;have c6b1:=decide_eq_true c6;clear c6;obtain ⟨y650,hy650⟩: ∃ y_:List Int,y_=(List.replicate (ji4:Int).toNat 0):=⟨_,rfl⟩
   replace H:(if 0<(y650.length:Int) then (Qr.l0 k l1 a2 (y650.set (0:Int).toNat 1) l0 (l0.length:Int) 0) else (none))=some r:=by first|(rw [hy650];with_reducible exact H)|(have H2_:=(Option.bind_some _ _).symm.trans H;rw [hy650];with_reducible exact H2_)|(have H2_:=(Option.bind_some _ _).symm.trans H;with_reducible exact H2_)|with_reducible exact H|(rw [hy650];exact H)|exact H
   have Ny650:=Zk hy650;clear hy650
   by_cases c7:0<(y650.length:Int)
   ·
    rw [if_pos c7] at H;have c7b0:=decide_eq_true c7;have c7b1:decide (0<y650.length)=true:=decide_eq_true (by omega);clear c7;obtain ⟨y653,hy653⟩: ∃ y_:List Int,y_=(y650.set (0:Int).toNat 1):=⟨_,rfl⟩
    replace H:(Qr.l0 k l1 a2 y653 l0 (l0.length:Int) 0)=some r:=by first|(rw [hy653];with_reducible exact H)|(have H2_:=(Option.bind_some _ _).symm.trans H;rw [hy653];with_reducible exact H2_)|(have H2_:=(Option.bind_some _ _).symm.trans H;with_reducible exact H2_)|with_reducible exact H|(rw [hy653];exact H)|exact H
    have Ny653:=Zk hy653;clear hy653;have H':=Zk H;clear H;go_enter Tryz.func204,Tryz.ntmps204;go_wp2_with (first|((with_reducible refine Qu (N:=16) rfl ?_);refine Kd.R_make (Kd.int .i64) _ 3 rfl (N:=16) rfl 24 _ _ rfl ji4 rfl rfl Tryz.underlying24 (.int .i64 0) 8 Qdq rfl (by decide) (by omega) 0 (ok:=fun _=>True) (okp:=fun _=>True) rfl (fun _ hk=>hk) trivial (of_decide_eq_true (by first|(with_reducible assumption)|assumption)) (Nat.le_trans (Nat.mul_le_mul_right _ (of_decide_eq_true (by first|(with_reducible assumption)|assumption):ji4.toNat≤35184372088832)) (by omega)) (Below.refl _ _) (Nat.le_refl _) ?_;intro v651 w9 ho10 hb hg_ hnew_;clear hg_ hnew_;(first|rw [←Ny650.out] at ho10|(simp only [Int.reduceToNat] at ho10;rw [←Ny650.out] at ho10));have HO652:=Zk (Kd.R_lower ho10 (Qh (uB HB)));replace HB:=Zk (Qb (uB HB) hb);clear hb ho10;have p8:0≤(0:Int):=(by omega);have q8:(0:Int)<((y650.length:Int):Int):=of_decide_eq_true (by first|(with_reducible assumption)|assumption);have qi8:(0<y650.length)=True:=eq_true (by omega);obtain ⟨go8,co8,eo8,gb8,gl8,cl8,HG8⟩:=Kd.R_form HO652.out (by omega);(first|cases eo8|(injection eo8 with ea_ en_ ec_;(first|subst ea_|(injection ea_ with ea_;subst ea_));subst ec_;clear en_));have GB8:=Zk gb8;have GG8:=Zk HG8;clear gb8 gl8 HG8;obtain ⟨hx8_0,hf8_0⟩:=Kd.R_celln 0 HO652.out (0:Int) p8 q8;(try rw [show ((0:Int)).toNat=0 from rfl] at hx8_0);(try simp only [Nat.reduceMul,Nat.zero_mul,Nat.zero_add,Nat.reduceAdd] at hx8_0);(try rw [show ((0:Int)).toNat=0 from rfl] at hf8_0);(try simp only [Nat.reduceMul,Nat.zero_mul,Nat.zero_add,Nat.reduceAdd] at hf8_0);replace p8:=eq_true p8;replace q8:=eq_true q8;obtain ⟨hy11_,hz11_⟩:=Kd.R_celln 0 HO652.out (0:Int) (by omega) (of_decide_eq_true (by first|(with_reducible assumption)|assumption));(try simp only [Int.reduceToNat,Int.toNat_zero,Int.toNat_ofNat,Nat.reduceMul,Nat.zero_mul,Nat.zero_add] at hy11_ hz11_);(try rw [show ((0:Int)).toNat=0 from rfl] at hy11_);(try rw [show ((0:Int)).toNat=0 from rfl] at hz11_);have HP11:=Kd.R_putg HO652.out (0:Int) 1)|((with_reducible refine Qer (t:=3) (p:=18) rfl ?_);refine Qel (t:=3) (p:=18) (v:= ?vo_w12) (w1:=(w9.setCell ⟨go8,(0:Int).toNat,none⟩ (.int .i64 1))) ?hg ?ho ?hn ?hr ?_;(case ho=>rfl);(case hg=>rfl);(case hn=>rfl);(case hr=>first|(go_simp;done)|(go_simp;rfl));intro w12 hw;have hg:w9.grownBy w12 (some go8):=(by rw [hw];exact HP11.2);have hp_:Kd.R (Kd.int .i64) 3 w12 w.heap.size (fun _=>True) (.slice (some ⟨go8,0,none⟩) y650.length co8) y653:=(by rw [hw,Ny653.out];exact HP11.1);clear HP11;replace HO652:=Zk (hp_);replace HB:=Zk ((by rw [hw];exact Qbt (HB.out) GB8.out:Below w.heap.size w w12));clear hg hw hp_))
    go_loopg [21] k (fun kq v21 w'=> ∃ (x7_1:List Int) (x21_1:Int),v21= .int .i64 x21_1∧Z0 (Qr.l0 kq l1 a2 x7_1 l0 (l0.length:Int) x21_1=some r)∧Z0 (kq≤k)∧Z0 (Kd.R (Kd.int .i64) 3 w' w.heap.size (fun _=>True) (.slice (some ⟨go8,0,none⟩) y650.length co8) x7_1)∧Z0 (Below w.heap.size w w'))
    case atStart=>exact ⟨(y653),(0),(by first|rfl|(simp;done)|(simp [*];done)),H',⟨Nat.le_refl _⟩,⟨uR HO652⟩,⟨uB HB⟩⟩
    case round=>
     clear H'
     try clear c5b0 c5b1 c6b0 c6b1 c7b0 c7b1 p8 q8 qi8 hx8_0 p8 q8
     obtain ⟨x7_1,x21_1,rfl,HA,HK1,HO_7,HB⟩:=hrel;have hl7_1:=(Kd.R_reads' HO_7.out).1;rw [hl7_1] at HO_7
     (try simp only [hl7_1])
     cases gk with
     |zero=>exact absurd HA.out (by simp [Qr.l0])
     |succ k1=>
      have H:=HA.out;clear HA;simp only [Qr.l0] at H
      by_cases c13:x21_1<(l0.length:Int)
      ·
       rw [if_pos c13] at H;have c13b0:=decide_eq_true c13;clear c13
       by_cases c14:0≤x21_1
       ·
        rw [if_pos c14] at H;have c14b0:=decide_eq_true c14;clear c14
        by_cases c15:x21_1<(l0.length:Int)
        ·
         rw [if_pos c15] at H;have c15b0:=decide_eq_true c15;clear c15;have H':=Zk H;clear H;have p654:0≤(x21_1:Int):=of_decide_eq_true (by first|(with_reducible assumption)|assumption);have q654:x21_1<(l0.length:Int):=of_decide_eq_true (by first|(with_reducible assumption)|assumption);obtain ⟨ad654,e654,hx654_0⟩:=Kd.at_int HR0.out x21_1 p654 q654;cases e654;replace hx654_0:=(HB.out.cell (World.block_lt_of_cell? w _ hx654_0)).trans hx654_0;replace p654:=eq_true p654;replace q654:=eq_true q654;go_wp2
         go_loopg [10] k1 (fun kq v10 w'=> ∃ (x7_2:List Int) (x10_2:Int),v10= .int .i64 x10_2∧Z0 (Qr.l1 kq l1 a2 x7_2 (rd l0 x21_1) x10_2 l0 (l0.length:Int) x21_1=some r)∧Z0 (kq≤k1)∧Z0 (Kd.R (Kd.int .i64) 3 w' w.heap.size (fun _=>True) (.slice (some ⟨go8,0,none⟩) x7_1.length co8) x7_2)∧Z0 (Below w.heap.size w w'))
         case atStart=>exact ⟨(x7_1),(a2),(by first|rfl|(simp;done)|(simp [*];done)),H',⟨Nat.le_refl _⟩,⟨by (try simp only [hl7_1]);(with_reducible repeat (first|apply Kd.R_alloc|apply Kd.R_drewN|apply Kd.R_drew));exact HO_7.out⟩,⟨uB HB⟩⟩
         case round=>
          clear H'
          try clear c13b0 c14b0 c15b0 hx654_0 p654 q654
          obtain ⟨x7_2,x10_2,rfl,HA,HK2,HO_7,HB⟩:=hrel;have hl7_2:=(Kd.R_reads' HO_7.out).1;rw [hl7_2] at HO_7
          (try simp only [hl7_2])
          cases gk with
          |zero=>exact absurd HA.out (by simp [Qr.l1])
          |succ k2=>
           have H:=HA.out;clear HA;simp only [Qr.l1] at H
           by_cases c16:x10_2 ≥ (rd l0 x21_1)
           ·
            rw [if_pos c16] at H;have c16b0:=decide_eq_true c16;clear c16
            by_cases c17:0≤x10_2
            ·
             rw [if_pos c17] at H;have c17b0:=decide_eq_true c17;clear c17
             by_cases c18:x10_2<(x7_2.length:Int)
             ·
              rw [if_pos c18] at H;have c18b0:=decide_eq_true c18;clear c18;obtain ⟨ji19,hji19⟩: ∃ j_:Int,(wrap64 (x10_2 - (rd l0 x21_1)))=j_:=⟨_,rfl⟩
              replace H:(if 0≤(ji19) then (if (ji19)<(x7_2.length:Int) then (Qr.l1 k2 l1 a2 (x7_2.set (x10_2:Int).toNat (wrap64 ((rd x7_2 x10_2) - (rd x7_2 (ji19))))) (rd l0 x21_1) (wrap64 (x10_2 - 1)) l0 (l0.length:Int) x21_1) else (none)) else (none))=some r:=by first|(rw [hji19] at H;exact H)|(simp only [hji19] at H ⊢;exact H)
              have hji19w:(IntKind.i64.wrap (x10_2 - (rd l0 x21_1)))=ji19:=(Qcm _).trans hji19
              by_cases c20:0≤(ji19)
              ·
               rw [if_pos c20] at H;have c20b0:=decide_eq_true c20;clear c20
               by_cases c21:(ji19)<(x7_2.length:Int)
               ·
                rw [if_pos c21] at H;have c21b0:=decide_eq_true c21;clear c21;obtain ⟨y657,hy657⟩: ∃ y_:List Int,y_=(x7_2.set (x10_2:Int).toNat (wrap64 ((rd x7_2 x10_2) - (rd x7_2 (ji19))))):=⟨_,rfl⟩
                replace H:(Qr.l1 k2 l1 a2 y657 (rd l0 x21_1) (wrap64 (x10_2 - 1)) l0 (l0.length:Int) x21_1)=some r:=by first|(rw [hy657];with_reducible exact H)|(have H2_:=(Option.bind_some _ _).symm.trans H;rw [hy657];with_reducible exact H2_)|(have H2_:=(Option.bind_some _ _).symm.trans H;with_reducible exact H2_)|with_reducible exact H|(rw [hy657];exact H)|exact H
                have Ny657:=Zk hy657;clear hy657;have H':=Zk H;clear H
                try go_wp2
                replace HO_7:=Zk (Kd.R_drew HO_7.out);replace HB:=Zk (Q2 HB.out);have p655:0≤(x10_2:Int):=of_decide_eq_true (by first|(with_reducible assumption)|assumption);have q655:x10_2<(x7_2.length:Int):=of_decide_eq_true (by first|(with_reducible assumption)|assumption);obtain ⟨ad655,e655,hx655_0⟩:=Kd.at_int (Kd.R_reads' HO_7.out).2.2 x10_2 p655 q655;obtain rfl:(⟨go8,0,none⟩:Addr)=ad655:=(by injection e655)
                (first|simp only [Qd2] at hx655_0|simp only [Qe5] at hx655_0|simp only [Addr.add,Nat.zero_add] at hx655_0|skip)
                replace p655:=eq_true p655;replace q655:=eq_true q655;have p656:0≤((ji19):Int):=of_decide_eq_true (by first|(with_reducible assumption)|assumption);have q656:(ji19)<(x7_2.length:Int):=of_decide_eq_true (by first|(with_reducible assumption)|assumption);obtain ⟨ad656,e656,hx656_0⟩:=Kd.at_int (Kd.R_reads' HO_7.out).2.2 (ji19) p656 q656;obtain rfl:(⟨go8,0,none⟩:Addr)=ad656:=(by injection e656)
                (first|simp only [Qd2] at hx656_0|simp only [Qe5] at hx656_0|simp only [Addr.add,Nat.zero_add] at hx656_0|skip)
                replace p656:=eq_true p656;replace q656:=eq_true q656;have p22:0≤(x10_2:Int):=of_decide_eq_true (by first|(with_reducible assumption)|assumption);have q22:(x10_2:Int)<((x7_2.length:Int):Int):=of_decide_eq_true (by first|(with_reducible assumption)|assumption);obtain ⟨hx22_0,hf22_0⟩:=Kd.R_celln 0 HO_7.out (x10_2:Int) p22 q22;replace p22:=eq_true p22;replace q22:=eq_true q22;have HP24:=Kd.R_putn HO_7.out (x10_2:Int) (wrap64 ((rd x7_2 x10_2) - (rd x7_2 (ji19))));rw [←Ny657.out] at HP24;have HQ24:=Zk HP24;clear HP24;refine sU (n:=13) (S:=fun w'=>w'.cell? ⟨go8,(x10_2).toNat,none⟩=some (.int .i64 (rd x7_2 x10_2))∧w'.cell? ⟨go8,((ji19)).toNat,none⟩=some (.int .i64 (rd x7_2 (ji19)))) (ds:= [12]) ⟨hx655_0,hx656_0⟩ (fun hHeld=> ?_);refine Qey Qr.tab9 Qr.bits9 (fun HT_ HW_=> ?_);generalize wr.drew=w23 at HO_7 HB HQ24 hf22_0 hx22_0 hx655_0 hx656_0 hHeld ⊢;refine pU 0 31 ?_;refine pU 1 32 ?_;refine pU 2 33 ?_;refine pU 4 35 ?_;refine pU 5 36 ?_;refine pU 6 37 ?_;refine pU 7 38 ?_;refine pU 8 39 ?_;refine tW 3 34 hHeld ?_;refine tW 9 40 hHeld ?_;refine pU 10 41 ?_;refine pU 11 42 ?_;refine lU 12 none fun K hK=> ?_
                refine sK ?_;refine hK.out _ _ ?_;clear hK K;refine dU ?_
                try go_wp2
                (try simp only [←hl7_2])
                go_roundg k2
                case measure=>have:=HK1.out;have:=HK2.out;omega
                case rel=>exact ⟨(y657),(wrap64 (x10_2 - 1)),(by first|rfl|(simp;done)|(simp [*];done)),H',⟨by have:=HK1.out;have:=HK2.out;omega⟩,⟨by (try simp only [hl7_1]);(try simp only [hl7_2]);(with_reducible repeat (first|apply Kd.R_alloc|apply Kd.R_drewN|apply Kd.R_drew));exact HQ24.out⟩,⟨(vB HB)⟩⟩
               ·
                rw [if_neg c21] at H;exact absurd H (by simp)
              ·
               rw [if_neg c20] at H;exact absurd H (by simp)
             ·
              rw [if_neg c18] at H;exact absurd H (by simp)
            ·
             rw [if_neg c17] at H;exact absurd H (by simp)
           ·
            rw [if_neg c16] at H;have c16b0:=decide_eq_false c16;clear c16;have H':=Zk H;clear H;go_wp2
            (try simp only [←hl7_1,←hl7_2])
            go_roundg k2
            case measure=>have:=HK1.out;have:=HK2.out;omega
            case rel=>exact ⟨(x7_2),(wrap64 (x21_1+1)),(by first|rfl|(simp;done)|(simp [*];done)),H',⟨by have:=HK1.out;have:=HK2.out;omega⟩,⟨by (try simp only [hl7_1]);(try simp only [hl7_2]);(with_reducible repeat (first|apply Kd.R_alloc|apply Kd.R_drewN|apply Kd.R_drew));exact HO_7.out⟩,⟨uB HB⟩⟩
        ·
         rw [if_neg c15] at H;exact absurd H (by simp)
       ·
        rw [if_neg c14] at H;exact absurd H (by simp)
      ·
       rw [if_neg c13] at H;have c13b0:=decide_eq_false c13;clear c13;have H':=Zk H;clear H;go_wp2
       go_loopg [46] k1 (fun kq v46 w'=> ∃ (x7_2:List Int) (x46_2:Int),v46= .int .i64 x46_2∧Z0 (Qr.l2 kq a2 x7_2 l1 (l1.length:Int) x46_2=some r)∧Z0 (kq≤k1)∧Z0 (Kd.R (Kd.int .i64) 3 w' w.heap.size (fun _=>True) (.slice (some ⟨go8,0,none⟩) x7_1.length co8) x7_2)∧Z0 (Below w.heap.size w w'))
       case atStart=>exact ⟨(x7_1),(0),(by first|rfl|(simp;done)|(simp [*];done)),H',⟨Nat.le_refl _⟩,⟨by (try simp only [hl7_1]);(with_reducible repeat (first|apply Kd.R_alloc|apply Kd.R_drewN|apply Kd.R_drew));exact HO_7.out⟩,⟨uB HB⟩⟩
       case round=>
        clear H'
        try clear c13b0
        obtain ⟨x7_2,x46_2,rfl,HA,HK2,HO_7,HB⟩:=hrel;have hl7_2:=(Kd.R_reads' HO_7.out).1;rw [hl7_2] at HO_7
        (try simp only [hl7_2])
        cases gk with
        |zero=>exact absurd HA.out (by simp [Qr.l2])
        |succ k2=>
         have H:=HA.out;clear HA;simp only [Qr.l2] at H
         by_cases c25:x46_2<(l1.length:Int)
         ·
          rw [if_pos c25] at H;have c25b0:=decide_eq_true c25;clear c25
          by_cases c26:0≤x46_2
          ·
           rw [if_pos c26] at H;have c26b0:=decide_eq_true c26;clear c26
           by_cases c27:x46_2<(l1.length:Int)
           ·
            rw [if_pos c27] at H;have c27b0:=decide_eq_true c27;clear c27;have H':=Zk H;clear H;have p658:0≤(x46_2:Int):=of_decide_eq_true (by first|(with_reducible assumption)|assumption);have q658:x46_2<(l1.length:Int):=of_decide_eq_true (by first|(with_reducible assumption)|assumption);obtain ⟨ad658,e658,hx658_0⟩:=Kd.at_int HR1.out x46_2 p658 q658;cases e658;replace hx658_0:=(HB.out.cell (World.block_lt_of_cell? w _ hx658_0)).trans hx658_0;replace p658:=eq_true p658;replace q658:=eq_true q658;go_wp2
            go_loopg [13] k2 (fun kq v13 w'=> ∃ (x7_3:List Int) (x13_3:Int),v13= .int .i64 x13_3∧Z0 (Qr.l3 kq a2 x7_3 (rd l1 x46_2) x13_3 l1 (l1.length:Int) x46_2=some r)∧Z0 (kq≤k2)∧Z0 (Kd.R (Kd.int .i64) 3 w' w.heap.size (fun _=>True) (.slice (some ⟨go8,0,none⟩) x7_2.length co8) x7_3)∧Z0 (Below w.heap.size w w'))
            case atStart=>exact ⟨(x7_2),(rd l1 x46_2),(by first|rfl|(simp;done)|(simp [*];done)),H',⟨Nat.le_refl _⟩,⟨by (try simp only [hl7_1]);(try simp only [hl7_2]);(with_reducible repeat (first|apply Kd.R_alloc|apply Kd.R_drewN|apply Kd.R_drew));exact HO_7.out⟩,⟨uB HB⟩⟩
            case round=>
             clear H'
             try clear c25b0 c26b0 c27b0 hx658_0 p658 q658
             obtain ⟨x7_3,x13_3,rfl,HA,HK3,HO_7,HB⟩:=hrel;have hl7_3:=(Kd.R_reads' HO_7.out).1;rw [hl7_3] at HO_7
             (try simp only [hl7_3])
             cases gk with
             |zero=>exact absurd HA.out (by simp [Qr.l3])
             |succ k3=>
              have H:=HA.out;clear HA;simp only [Qr.l3] at H
              by_cases c28:x13_3≤a2
              ·
               rw [if_pos c28] at H;have c28b0:=decide_eq_true c28;clear c28
               by_cases c29:0≤x13_3
               ·
                rw [if_pos c29] at H;have c29b0:=decide_eq_true c29;clear c29
                by_cases c30:x13_3<(x7_3.length:Int)
                ·
                 rw [if_pos c30] at H;have c30b0:=decide_eq_true c30;clear c30;obtain ⟨ji31,hji31⟩: ∃ j_:Int,(wrap64 (x13_3 - (rd l1 x46_2)))=j_:=⟨_,rfl⟩
                 replace H:(if 0≤(ji31) then (if (ji31)<(x7_3.length:Int) then (Qr.l3 k3 a2 (x7_3.set (x13_3:Int).toNat (wrap64 ((rd x7_3 x13_3)+(rd x7_3 (ji31))))) (rd l1 x46_2) (wrap64 (x13_3+1)) l1 (l1.length:Int) x46_2) else (none)) else (none))=some r:=by first|(rw [hji31] at H;exact H)|(simp only [hji31] at H ⊢;exact H)
                 have hji31w:(IntKind.i64.wrap (x13_3 - (rd l1 x46_2)))=ji31:=(Qcm _).trans hji31
                 by_cases c32:0≤(ji31)
                 ·
                  rw [if_pos c32] at H;have c32b0:=decide_eq_true c32;clear c32
                  by_cases c33:(ji31)<(x7_3.length:Int)
                  ·
                   rw [if_pos c33] at H;have c33b0:=decide_eq_true c33;clear c33;obtain ⟨y661,hy661⟩: ∃ y_:List Int,y_=(x7_3.set (x13_3:Int).toNat (wrap64 ((rd x7_3 x13_3)+(rd x7_3 (ji31))))):=⟨_,rfl⟩
                   replace H:(Qr.l3 k3 a2 y661 (rd l1 x46_2) (wrap64 (x13_3+1)) l1 (l1.length:Int) x46_2)=some r:=by first|(rw [hy661];with_reducible exact H)|(have H2_:=(Option.bind_some _ _).symm.trans H;rw [hy661];with_reducible exact H2_)|(have H2_:=(Option.bind_some _ _).symm.trans H;with_reducible exact H2_)|with_reducible exact H|(rw [hy661];exact H)|exact H
                   have Ny661:=Zk hy661;clear hy661;have H':=Zk H;clear H
                   try go_wp2
                   replace HO_7:=Zk (Kd.R_drew HO_7.out);replace HB:=Zk (Q2 HB.out);have p659:0≤(x13_3:Int):=of_decide_eq_true (by first|(with_reducible assumption)|assumption);have q659:x13_3<(x7_3.length:Int):=of_decide_eq_true (by first|(with_reducible assumption)|assumption);obtain ⟨ad659,e659,hx659_0⟩:=Kd.at_int (Kd.R_reads' HO_7.out).2.2 x13_3 p659 q659;obtain rfl:(⟨go8,0,none⟩:Addr)=ad659:=(by injection e659)
                   (first|simp only [Qd2] at hx659_0|simp only [Qe5] at hx659_0|simp only [Addr.add,Nat.zero_add] at hx659_0|skip)
                   replace p659:=eq_true p659;replace q659:=eq_true q659;have p660:0≤((ji31):Int):=of_decide_eq_true (by first|(with_reducible assumption)|assumption);have q660:(ji31)<(x7_3.length:Int):=of_decide_eq_true (by first|(with_reducible assumption)|assumption);obtain ⟨ad660,e660,hx660_0⟩:=Kd.at_int (Kd.R_reads' HO_7.out).2.2 (ji31) p660 q660;obtain rfl:(⟨go8,0,none⟩:Addr)=ad660:=(by injection e660)
                   (first|simp only [Qd2] at hx660_0|simp only [Qe5] at hx660_0|simp only [Addr.add,Nat.zero_add] at hx660_0|skip)
                   replace p660:=eq_true p660;replace q660:=eq_true q660;have p34:0≤(x13_3:Int):=of_decide_eq_true (by first|(with_reducible assumption)|assumption);have q34:(x13_3:Int)<((x7_3.length:Int):Int):=of_decide_eq_true (by first|(with_reducible assumption)|assumption);obtain ⟨hx34_0,hf34_0⟩:=Kd.R_celln 0 HO_7.out (x13_3:Int) p34 q34;replace p34:=eq_true p34;replace q34:=eq_true q34;have HP36:=Kd.R_putn HO_7.out (x13_3:Int) (wrap64 ((rd x7_3 x13_3)+(rd x7_3 (ji31))));rw [←Ny661.out] at HP36;have HQ36:=Zk HP36;clear HP36;refine sU (n:=13) (S:=fun w'=>w'.cell? ⟨go8,(x13_3).toNat,none⟩=some (.int .i64 (rd x7_3 x13_3))∧w'.cell? ⟨go8,((ji31)).toNat,none⟩=some (.int .i64 (rd x7_3 (ji31)))) (ds:= [12]) ⟨hx659_0,hx660_0⟩ (fun hHeld=> ?_);refine Qey Qr.tab17 Qr.bits17 (fun HT_ HW_=> ?_);generalize wr.drew=w35 at HO_7 HB HQ36 hf34_0 hx34_0 hx659_0 hx660_0 hHeld ⊢;refine pU 0 56 ?_;refine pU 1 57 ?_;refine pU 2 58 ?_;refine pU 4 60 ?_;refine pU 5 61 ?_;refine pU 6 62 ?_;refine pU 7 63 ?_;refine pU 8 64 ?_;refine tW 3 59 hHeld ?_;refine tW 9 65 hHeld ?_;refine pU 10 66 ?_;refine pU 11 67 ?_;refine lU 12 none fun K hK=> ?_
                   refine sK ?_;refine hK.out _ _ ?_;clear hK K;refine dU ?_
                   try go_wp2
                   (try simp only [←hl7_3])
                   go_roundg k3
                   case measure=>have:=HK1.out;have:=HK2.out;have:=HK3.out;omega
                   case rel=>exact ⟨(y661),(wrap64 (x13_3+1)),(by first|rfl|(simp;done)|(simp [*];done)),H',⟨by have:=HK1.out;have:=HK2.out;have:=HK3.out;omega⟩,⟨by (try simp only [hl7_1]);(try simp only [hl7_2]);(try simp only [hl7_3]);(with_reducible repeat (first|apply Kd.R_alloc|apply Kd.R_drewN|apply Kd.R_drew));exact HQ36.out⟩,⟨(vB HB)⟩⟩
                  ·
                   rw [if_neg c33] at H;exact absurd H (by simp)
                 ·
                  rw [if_neg c32] at H;exact absurd H (by simp)
                ·
                 rw [if_neg c30] at H;exact absurd H (by simp)
               ·
                rw [if_neg c29] at H;exact absurd H (by simp)
              ·
               rw [if_neg c28] at H;have c28b0:=decide_eq_false c28;clear c28;have H':=Zk H;clear H;go_wp2
               (try simp only [←hl7_2,←hl7_3])
               go_roundg k3
               case measure=>have:=HK1.out;have:=HK2.out;have:=HK3.out;omega
               case rel=>exact ⟨(x7_3),(wrap64 (x46_2+1)),(by first|rfl|(simp;done)|(simp [*];done)),H',⟨by have:=HK1.out;have:=HK2.out;have:=HK3.out;omega⟩,⟨by (try simp only [hl7_1]);(try simp only [hl7_2]);(try simp only [hl7_3]);(with_reducible repeat (first|apply Kd.R_alloc|apply Kd.R_drewN|apply Kd.R_drew));exact HO_7.out⟩,⟨uB HB⟩⟩
           ·
            rw [if_neg c27] at H;exact absurd H (by simp)
          ·
           rw [if_neg c26] at H;exact absurd H (by simp)
         ·
          rw [if_neg c25] at H;have c25b0:=decide_eq_false c25;clear c25;obtain rfl:=Option.some.inj H;go_wp2
          go_ret
          exact ⟨_,by first|rfl|(simp [Qe,Qf] <;>rfl)|(simp only [←hji4];first|rfl|(simp [Qe,Qf] <;>rfl))|(simp [*,Qe,Qf] <;>rfl),uR HO_7,uB HB⟩
   ·
    rw [if_neg c7] at H;exact absurd H (by simp)
  ·
   rw [if_neg c6] at H;exact absurd H (by simp)
 ·
  rw [if_neg c5] at H;exact absurd H (by simp)
def Qcr.l0:Nat→Int→List Int→Int→Option (List Int)
 |0,_,_,_=>none
 |k+1,x1,x5,x6=>if x6≤x1 then (if x5.length<17592186044416 then (Qcr.l0 k x1 (x5++ [x6]) (wrap64 (x6+1))) else (none)) else (some x5)
def Qcr.f (k:Nat) (a0:Int) (a1:Int):Option (List Int):=Qcr.l0 k a1 ([] :List Int) a0
theorem Qcr.mono_l: ∀ k,(∀ y0 y1 y2,LeO (Qcr.l0 k y0 y1 y2) (Qcr.l0 (k+1) y0 y1 y2))
 |0=>fun _ _ _ r h=>by simp [Qcr.l0] at h
 |k+1=>by
  have ih0:=Qcr.mono_l k
  ·
   intro y0 y1 y2;unfold Qcr.l0
   repeat' first
   |(with_reducible exact ih0 _ _ _)
   |(with_reducible exact LeO.refl _)
   |(with_reducible exact LeO.none _)
   |(with_reducible refine LeO.ite ?_ ?_)
   |(with_reducible refine LeO.bind ?_ (fun _=> ?_))
   |exact ih0 _ _ _
   |exact LeO.none _
   |refine LeO.ite ?_ ?_
   |refine LeO.bind ?_ (fun _=> ?_)
theorem Qcr.mono: ∀ a0 a1 k,LeO (Qcr.f k a0 a1) (Qcr.f (k+1) a0 a1):=by
 intro a0 a1 k;have ih0:=Qcr.mono_l k;unfold Qcr.f
 repeat' (with_reducible first|apply ih0|exact LeO.refl _|exact LeO.none _|refine LeO.ite ?_ ?_|refine LeO.bind ?_ (fun _=> ?_))
set_option maxHeartbeats 8000000 in
set_option maxRecDepth 100000 in
theorem Qcr.calls (k:Nat) (a0:Int) (a1:Int) (r:List Int) (w:World) (h:Qcr.f k a0 a1=some r):
 Calls Tryz.prog 205 #[.int .i64 a0, .int .i64 a1] w fun e w'=> ∃ v0_:Value,e= .returned (v0_)∧Kd.R (Kd.int .i64) 3 w' w.heap.size (fun _=>True) v0_ r∧Below w.heap.size w w':=by
 have HB:=Zk (Below.refl w.heap.size w);have H:(Qcr.l0 k a1 ([] :List Int) a0)=some r:=h;clear h;have H':=Zk H;clear H;go_enter Tryz.func205,Tryz.ntmps205;go_wp2
 go_loopg [5,6] k (fun kq v5 v6 w'=> ∃ (x5_1:List Int) (x6_1:Int),v6= .int .i64 x6_1∧Z0 (Qcr.l0 kq a1 x5_1 x6_1=some r)∧Z0 (kq≤k)∧Z0 (Kd.R (Kd.int .i64) 3 w' w.heap.size (fun _=>True) v5 x5_1)∧Z0 (Below w.heap.size w w'))
 case atStart=>exact ⟨(([] :List Int)),(a0),(by first|rfl|(simp;done)|(simp [*];done)),H',⟨Nat.le_refl _⟩,⟨by first|exact Kd.R_nil _ _ _ _ _|exact Kd.N_nil _ _ _ _ _|exact Kd.V_nil _ _ _ _ _|exact Kd.Q_nil _ _ _ _ _|exact Kd.S_nil _ _ _ _ _⟩,⟨uB HB⟩⟩
 case round=>
  clear H'
  skip
  obtain ⟨x5_1,x6_1,rfl,HA,HK1,HO_5,HB⟩:=hrel;cases gk with
  |zero=>exact absurd HA.out (by simp [Qcr.l0])
  |succ k1=>
   have H:=HA.out;clear HA;simp only [Qcr.l0] at H
   by_cases c3:x6_1≤a1
   ·
    rw [if_pos c3] at H;have c3b0:=decide_eq_true c3;clear c3
    by_cases c4:x5_1.length<17592186044416
    ·
     rw [if_pos c4] at H;have LMc4:=Zk c4;clear c4;obtain ⟨y662,hy662⟩: ∃ y_:List Int,y_=(x5_1++ [x6_1]):=⟨_,rfl⟩
     replace H:(Qcr.l0 k1 a1 y662 (wrap64 (x6_1+1)))=some r:=by first|(rw [hy662];with_reducible exact H)|(have H2_:=(Option.bind_some _ _).symm.trans H;rw [hy662];with_reducible exact H2_)|(have H2_:=(Option.bind_some _ _).symm.trans H;with_reducible exact H2_)|with_reducible exact H|(rw [hy662];exact H)|exact H
     have Ny662:=Zk hy662;clear hy662;have H':=Zk H;clear H;go_wp2_with (first|((with_reducible refine Qb1 (b:= .append) (xs:= #[.tmp 13, .tmp 15]) rfl ?_);at_builtin;refine Kd.R_append (Kd.int .i64) (w0:=w) w.heap.size rfl (.tmp 13) (.tmp 15) 24 3 (.int .i64 0) 8 rfl Tryz.underlying24 Qdq rfl (by decide) (by omega) u5 x5_1 x6_1 [.int .i64 x6_1] (fun _=>True) (fun _=>False) rfl rfl ?aP (fun _ hk=>hk.elim) ?aF ?aO ?aB ?aS ?aL ?_;(case aP=>exact rfl);(case aB=>exact (uB HB));(case aF=>exact (fun _ _=>trivial));(case aO=>exact (uR HO_5));(case aS=>exact (Qh (uB HB)));(case aL=>have:=LMc4.out;omega);intro v663 w5 ho hb hg hat;rw [←Ny662.out] at ho;replace HB:=Zk (hb);have HO664:=Zk (ho);clear HO_5;clear ho hb hg hat));go_roundg k1
     case measure=>have:=HK1.out;omega
     case rel=>exact ⟨(y662),(wrap64 (x6_1+1)),(by first|rfl|(simp;done)|(simp [*];done)),H',⟨by have:=HK1.out;omega⟩,⟨uR HO664⟩,⟨uB HB⟩⟩
    ·
     rw [if_neg c4] at H;exact absurd H (by simp)
   ·
    rw [if_neg c3] at H;have c3b0:=decide_eq_false c3;clear c3;obtain rfl:=Option.some.inj H;go_wp2
    go_ret
    exact ⟨_,by first|rfl|(simp [Qe,Qf] <;>rfl)|(simp [*,Qe,Qf] <;>rfl),uR HO_5,uB HB⟩
def Qdb.f (k:Nat) (a0:Int) (a1:Int):Option (List Int × Bool):=(Qcu.f a0 a1).bind fun t665=>(if t665=true then ((Qcr.f k (wrap64 (a1+1)) (wrap64 (a0+a1))).bind fun t666=>((Qcr.f k 1 a0).bind fun t669=>((Qr.f k t666 t669 (wrap64 (a0*a1))).bind fun t672=>(some (t672,true))))) else (some (([] :List Int),false)))
theorem Qdb.mono: ∀ a0 a1 k,LeO (Qdb.f k a0 a1) (Qdb.f (k+1) a0 a1):=by
 intro a0 a1 k;unfold Qdb.f
 repeat' (with_reducible first|apply Qr.mono|apply Qcr.mono|exact LeO.refl _|exact LeO.none _|refine LeO.ite ?_ ?_|refine LeO.bind ?_ (fun _=> ?_))
set_option maxHeartbeats 8000000 in
set_option maxRecDepth 100000 in
theorem Qdb.calls (k:Nat) (a0:Int) (a1:Int) (r1:List Int) (r2:Bool) (w:World) (h:Qdb.f k a0 a1=some (r1,r2)):
 Calls Tryz.prog 61 #[.int .i64 a0, .int .i64 a1] w fun e w'=> ∃ v0_:Value,e= .returned (.tuple #[v0_, .bool r2])∧Kd.R (Kd.int .i64) 3 w' w.heap.size (fun _=>True) v0_ r1∧Below w.heap.size w w':=by
 have HB:=Zk (Below.refl w.heap.size w);have H:((Qcu.f a0 a1).bind fun t665=>(if t665=true then ((Qcr.f k (wrap64 (a1+1)) (wrap64 (a0+a1))).bind fun t666=>((Qcr.f k 1 a0).bind fun t669=>((Qr.f k t666 t669 (wrap64 (a0*a1))).bind fun t672=>(some (t672,true))))) else (some (([] :List Int),false))))=some (r1,r2):=h;clear h;obtain ⟨t665,A3,H⟩:=bs H;(try dsimp only at H)
 by_cases c4:t665=true
 ·
  subst c4;rw [if_pos rfl] at H;obtain ⟨t666,A5,H⟩:=bs H;(try dsimp only at H)
  obtain ⟨t669,A6,H⟩:=bs H;(try dsimp only at H)
  obtain ⟨t672,A7,H⟩:=bs H;(try dsimp only at H)
  simp only [Option.some.injEq,Prod.mk.injEq] at H;obtain ⟨rfl,rfl⟩:=H;go_enter Tryz.func61,Tryz.ntmps61;go_wp2_with (first|(refine gA (some 8) Tryz.func203 #[.int .i64 a0, .int .i64 a1] ?_;(with_reducible refine (Qcu.calls a0 a1 true _ A3.out).mono ?_);rintro e w' ⟨rfl,⟨nd,rfl⟩⟩;refine ⟨_,rfl,?_⟩)|(refine gA (some 15) Tryz.func205 #[.int .i64 (wrap64 (a1+1)), .int .i64 (wrap64 (a0+a1))] ?_;(with_reducible refine (Qcr.calls k (wrap64 (a1+1)) (wrap64 (a0+a1)) t666 _ A5.out).mono ?_);rintro e w8 ⟨v667,rfl,ho0,hb⟩;refine ⟨_,rfl,?_⟩;have HO668:=Zk (Kd.R_lower ho0 (Qh (uB HB)));replace HB:=Zk (Qb (uB HB) hb);(try clear hb ho0))|(refine gA (some 17) Tryz.func205 #[.int .i64 1, .int .i64 a0] ?_;(with_reducible refine (Qcr.calls k 1 a0 t669 _ A6.out).mono ?_);rintro e w9 ⟨v670,rfl,ho0,hb⟩;refine ⟨_,rfl,?_⟩;have HO671:=Zk (Kd.R_lower (Kd.R_new' ho0 (Kd.R_lt (uR HO668))) (Qh (uB HB)));replace HO668:=Zk (Kd.R_elder' (uR HO668) (Kd.R_base ho0) hb);replace HB:=Zk (Qb (uB HB) hb);(try clear hb ho0);obtain ⟨Ao10,co10,eo10⟩:=Kd.R_slice HO668.out;subst eo10;obtain ⟨Ao11,co11,eo11⟩:=Kd.R_slice HO671.out;subst eo11)|(refine gA (some 21) Tryz.func204 #[.slice Ao10 t666.length co10, .slice Ao11 t669.length co11, .int .i64 (wrap64 (a0*a1))] ?_;(with_reducible refine (Qr.calls k _ _ t666 _ _ t669 (wrap64 (a0*a1)) t672 _ (uE HO668) ?side2 (uE HO671) ?side4 A7.out).mono ?_);(case side2=>exact (Kd.R_reads' HO668.out).2.1);(case side4=>exact (Kd.R_reads' HO671.out).2.1);rintro e w12 ⟨v673,rfl,ho0,hb⟩;refine ⟨_,rfl,?_⟩;have HO674:=Zk (Kd.R_lower (Kd.R_new' (Kd.R_new' ho0 (Kd.R_lt (uR HO668))) (Kd.R_lt (uR HO671))) (Qh (uB HB)));replace HO668:=Zk (Kd.R_elder' (uR HO668) (Kd.R_base ho0) hb);replace HO671:=Zk (Kd.R_elder' (uR HO671) (Kd.R_base ho0) hb);replace HB:=Zk (Qb (uB HB) hb);(try clear hb ho0)))
  go_ret2
  exact ⟨_,by first|rfl|(simp [Qe,Qf] <;>rfl)|(simp [*,Qe,Qf] <;>rfl),Kd.R_mono (uR HO674) (fun _ hk=>trivial),uB HB⟩
 ·
  replace c4:=Bool.eq_false_iff.mpr c4;subst c4;rw [if_neg (show ¬ (false=true) by decide)] at H;simp only [Option.some.injEq,Prod.mk.injEq] at H;obtain ⟨rfl,rfl⟩:=H;go_enter Tryz.func61,Tryz.ntmps61;go_wp2_with (first|(refine gA (some 8) Tryz.func203 #[.int .i64 a0, .int .i64 a1] ?_;(with_reducible refine (Qcu.calls a0 a1 false _ A3.out).mono ?_);rintro e w' ⟨rfl,⟨nd,rfl⟩⟩;refine ⟨_,rfl,?_⟩))
  go_ret2
  exact ⟨_,by first|rfl|(simp [Qe,Qf] <;>rfl)|(simp [*,Qe,Qf] <;>rfl),by first|exact Kd.R_nil _ _ _ _ _|exact Kd.N_nil _ _ _ _ _|exact Kd.V_nil _ _ _ _ _|exact Kd.Q_nil _ _ _ _ _|exact Kd.S_nil _ _ _ _ _,uB HB⟩
mutual
def Qv.j0:Nat→List Int→Int→Bool→Option (List Int × Bool)
 |0,_,_,_=>none
 |k+1,x0,x1,x22=>if x22=true then (some (([] :List Int),false)) else (if 0≤x1 then (if (x1:Int).toNat≤35184372088832 then (Qv.l0 k x1 (List.replicate (x1:Int).toNat 0) x0 (x0.length:Int) 0) else (none)) else (none))
def Qv.l0:Nat→Int→List Int→List Int→Int→Int→Option (List Int × Bool)
 |0,_,_,_,_,_=>none
 |k+1,x1,x6,x25,x26,x27=>if x27<x26 then (if 0≤x27 then (if x27<(x25.length:Int) then (if x1=0 then (none) else (if 0≤(Int.tmod x27 x1) then (if (Int.tmod x27 x1)<(x6.length:Int) then (Qv.l0 k x1 (x6.set ((Int.tmod x27 x1):Int).toNat (wrap64 ((rd x6 (Int.tmod x27 x1))+(rd x25 x27)))) x25 x26 (wrap64 (x27+1))) else (none)) else (none))) else (none)) else (none)) else (some (x6,true))
end
def Qv.f (k:Nat) (l0:List Int) (a1:Int):Option (List Int × Bool):=(Qbz.f (l0.length:Int) 1 100).bind fun t675=>(if t675=true then ((Qb3.f k l0 0 1000000).bind fun t676=>(if t676=true then ((Qbz.f a1 1 60).bind fun t677=>(Qv.j0 k l0 a1 (!t677))) else (Qv.j0 k l0 a1 true))) else (Qv.j0 k l0 a1 true))
theorem Qv.mono_l: ∀ k,(∀ y0 y1 y2,LeO (Qv.j0 k y0 y1 y2) (Qv.j0 (k+1) y0 y1 y2))∧(∀ y0 y1 y2 y3 y4,LeO (Qv.l0 k y0 y1 y2 y3 y4) (Qv.l0 (k+1) y0 y1 y2 y3 y4))
 |0=>⟨fun _ _ _ r h=>by simp [Qv.j0] at h,fun _ _ _ _ _ r h=>by simp [Qv.l0] at h⟩
 |k+1=>by
  obtain ⟨ih0,ih1⟩:=Qv.mono_l k;refine ⟨?_,?_⟩
  all_goals
   intros
   first|unfold Qv.j0|unfold Qv.l0
   repeat' (with_reducible first|apply ih0|apply ih1|apply Qb3.mono|exact LeO.refl _|exact LeO.none _|refine LeO.ite ?_ ?_|refine LeO.bind ?_ (fun _=> ?_))
theorem Qv.mono: ∀ a0 a1 k,LeO (Qv.f k a0 a1) (Qv.f (k+1) a0 a1):=by
 intro a0 a1 k;obtain ⟨ih0,ih1⟩:=Qv.mono_l k;unfold Qv.f
 repeat' (with_reducible first|apply ih0|apply ih1|apply Qb3.mono|exact LeO.refl _|exact LeO.none _|refine LeO.ite ?_ ?_|refine LeO.bind ?_ (fun _=> ?_))
set_option maxHeartbeats 8000000 in
set_option maxRecDepth 100000 in
theorem Qv.calls (k:Nat) (A0:Option Addr) (c0:Nat) (l0:List Int) (a1:Int) (r1:List Int) (r2:Bool) (w:World) (hr0:Kd.C (Kd.int .i64) w A0 l0.length l0) (hc0:l0.length≤c0) (h:Qv.f k l0 a1=some (r1,r2)):
 Calls Tryz.prog 71 #[.slice A0 l0.length c0, .int .i64 a1] w fun e w'=> ∃ v0_:Value,e= .returned (.tuple #[v0_, .bool r2])∧Kd.R (Kd.int .i64) 3 w' w.heap.size (fun _=>True) v0_ r1∧Below w.heap.size w w':=by
 have HR0:=Zk hr0;have HC0:=Zk hc0;clear hr0 hc0;have HB:=Zk (Below.refl w.heap.size w);have H:((Qbz.f (l0.length:Int) 1 100).bind fun t675=>(if t675=true then ((Qb3.f k l0 0 1000000).bind fun t676=>(if t676=true then ((Qbz.f a1 1 60).bind fun t677=>(Qv.j0 k l0 a1 (!t677))) else (Qv.j0 k l0 a1 true))) else (Qv.j0 k l0 a1 true)))=some (r1,r2):=h;clear h;have HC3:=Zk H;clear H;go_enter Tryz.func71,Tryz.ntmps71;go_upto_region 1 with (fail)
 go_cut [22] (fun v22 wc=> ∃ (kq:Nat) (x22_2:Bool),v22= .bool x22_2∧Z0 (Qv.j0 kq l0 a1 x22_2=some (r1,r2))∧Z0 (kq≤k)∧Z0 (Below w.heap.size w wc))
 case first=>
  have H:=HC3.out;clear HC3;obtain ⟨t675,A4,H⟩:=bs H;(try dsimp only at H)
  by_cases c5:t675=true
  ·
   subst c5;rw [if_pos rfl] at H;obtain ⟨t676,A6,H⟩:=bs H;(try dsimp only at H)
   by_cases c7:t676=true
   ·
    subst c7;rw [if_pos rfl] at H;obtain ⟨t677,A8,H⟩:=bs H;(try dsimp only at H)
    have H':=Zk H;clear H;go_wp2_with (first|(refine gA (some 11) Tryz.func192 #[.int .i64 (l0.length:Int), .int .i64 1, .int .i64 100] ?_;(with_reducible refine (Qbz.calls (l0.length:Int) 1 100 true _ A4.out).mono ?_);rintro e w' ⟨rfl,⟨nd,rfl⟩⟩;refine ⟨_,rfl,?_⟩)|(go_at_call 224;(with_reducible refine (Qb3.calls k _ _ l0 0 1000000 true _ ?side1 HC0.out A6.out).mono ?_);(case side1=>repeat (first|exact (Kd.C_below HR0.out (uB HB))|(with_reducible refine Kd.C_alloc ?_ _)|(with_reducible refine Kd.C_drewN ?_ _)|(with_reducible refine Kd.C_drew ?_)));rintro e w' ⟨rfl,⟨nd,rfl⟩⟩)|(go_at_call 192;(with_reducible refine (Qbz.calls a1 1 60 t677 _ A8.out).mono ?_);rintro e w' ⟨rfl,⟨nd,rfl⟩⟩))
    go_meet
    case rel=>exact ⟨_,(!t677),(by first|rfl|(simp;done)|(simp [*];done)),H',⟨by first|omega|exact Nat.le_refl _⟩,⟨uB HB⟩⟩
   ·
    replace c7:=Bool.eq_false_iff.mpr c7;subst c7;rw [if_neg (show ¬ (false=true) by decide)] at H;have H':=Zk H;clear H;go_wp2_with (first|(refine gA (some 11) Tryz.func192 #[.int .i64 (l0.length:Int), .int .i64 1, .int .i64 100] ?_;(with_reducible refine (Qbz.calls (l0.length:Int) 1 100 true _ A4.out).mono ?_);rintro e w' ⟨rfl,⟨nd,rfl⟩⟩;refine ⟨_,rfl,?_⟩)|(go_at_call 224;(with_reducible refine (Qb3.calls k _ _ l0 0 1000000 false _ ?side1 HC0.out A6.out).mono ?_);(case side1=>repeat (first|exact (Kd.C_below HR0.out (uB HB))|(with_reducible refine Kd.C_alloc ?_ _)|(with_reducible refine Kd.C_drewN ?_ _)|(with_reducible refine Kd.C_drew ?_)));rintro e w' ⟨rfl,⟨nd,rfl⟩⟩))
    go_meet
    case rel=>exact ⟨_,(true),(by first|rfl|(simp;done)|(simp [*];done)),H',⟨by first|omega|exact Nat.le_refl _⟩,⟨uB HB⟩⟩
  ·
   replace c5:=Bool.eq_false_iff.mpr c5;subst c5;rw [if_neg (show ¬ (false=true) by decide)] at H;have H':=Zk H;clear H;go_wp2_with (first|(refine gA (some 11) Tryz.func192 #[.int .i64 (l0.length:Int), .int .i64 1, .int .i64 100] ?_;(with_reducible refine (Qbz.calls (l0.length:Int) 1 100 false _ A4.out).mono ?_);rintro e w' ⟨rfl,⟨nd,rfl⟩⟩;refine ⟨_,rfl,?_⟩))
   go_meet
   case rel=>exact ⟨_,(true),(by first|rfl|(simp;done)|(simp [*];done)),H',⟨by first|omega|exact Nat.le_refl _⟩,⟨uB HB⟩⟩
 case rest=>
  clear HC3
  skip
  obtain ⟨kq,x22_2,rfl,HA,HJ2,HB⟩:=hcut;cases kq with
  |zero=>exact absurd HA.out (by simp [Qv.j0])
  |succ kj2=>
   have H:=HA.out;clear HA;simp only [Qv.j0] at H
   by_cases c9:x22_2=true
   ·
    subst c9;rw [if_pos rfl] at H;simp only [Option.some.injEq,Prod.mk.injEq] at H;obtain ⟨rfl,rfl⟩:=H;go_wp2
    go_ret2
    exact ⟨_,by first|rfl|(simp [Qe,Qf] <;>rfl)|(simp [*,Qe,Qf] <;>rfl),by first|exact Kd.R_nil _ _ _ _ _|exact Kd.N_nil _ _ _ _ _|exact Kd.V_nil _ _ _ _ _|exact Kd.Q_nil _ _ _ _ _|exact Kd.S_nil _ _ _ _ _,uB HB⟩
   ·
    replace c9:=Bool.eq_false_iff.mpr c9;subst c9;rw [if_neg (show ¬ (false=true) by decide)] at H
    by_cases c10:0≤a1
    ·
     rw [if_pos c10] at H;have c10b0:=eq_true c10;have c10b1:=decide_eq_true c10;clear c10
     by_cases c11:(a1:Int).toNat≤35184372088832
     ·
      rw [if_pos c11] at H;have c11b0:=eq_true c11;have c11b1:=decide_eq_true c11;clear c11;obtain ⟨y678,hy678⟩: ∃ y_:List Int,y_=(List.replicate (a1:Int).toNat 0):=⟨_,rfl⟩
      replace H:(Qv.l0 kj2 a1 y678 l0 (l0.length:Int) 0)=some (r1,r2):=by first|(rw [hy678];with_reducible exact H)|(have H2_:=(Option.bind_some _ _).symm.trans H;rw [hy678];with_reducible exact H2_)|(have H2_:=(Option.bind_some _ _).symm.trans H;with_reducible exact H2_)|with_reducible exact H|(rw [hy678];exact H)|exact H
      have Ny678:=Zk hy678;clear hy678;have H':=Zk H;clear H;go_wp2_with (first|((with_reducible refine Qu (N:=24) rfl ?_);refine Kd.R_make (Kd.int .i64) _ 3 rfl (N:=24) rfl 24 _ _ rfl a1 rfl rfl Tryz.underlying24 (.int .i64 0) 8 Qdq rfl (by decide) (by omega) 0 (ok:=fun _=>True) (okp:=fun _=>True) rfl (fun _ hk=>hk) trivial (of_decide_eq_true (by first|(with_reducible assumption)|assumption)) (Nat.le_trans (Nat.mul_le_mul_right _ (of_decide_eq_true (by first|(with_reducible assumption)|assumption):a1.toNat≤35184372088832)) (by omega)) (Below.refl _ _) (Nat.le_refl _) ?_;intro v679 w12 ho13 hb hg_ hnew_;clear hg_ hnew_;(first|rw [←Ny678.out] at ho13|(simp only [Int.reduceToNat] at ho13;rw [←Ny678.out] at ho13));have HO680:=Zk (Kd.R_lower ho13 (Qh (uB HB)));replace HB:=Zk (Qb (uB HB) hb);clear hb ho13))
      go_loopg [27] kj2 (fun kq v27 w'=> ∃ (x6_2:List Int) (x27_2:Int),v27= .int .i64 x27_2∧Z0 (Qv.l0 kq a1 x6_2 l0 (l0.length:Int) x27_2=some (r1,r2))∧Z0 (kq≤kj2)∧Z0 (Kd.R (Kd.int .i64) 3 w' w.heap.size (fun _=>True) v679 x6_2)∧Z0 (Below w.heap.size w w'))
      case atStart=>exact ⟨(y678),(0),(by first|rfl|(simp;done)|(simp [*];done)),H',⟨Nat.le_refl _⟩,⟨uR HO680⟩,⟨uB HB⟩⟩
      case round=>
       clear H'
       try clear c10b0 c10b1 c11b0 c11b1
       obtain ⟨x6_2,x27_2,rfl,HA,HK2,HO_6,HB⟩:=hrel;cases gk with
       |zero=>exact absurd HA.out (by simp [Qv.l0])
       |succ k2=>
        have H:=HA.out;clear HA;simp only [Qv.l0] at H
        by_cases c14:x27_2<(l0.length:Int)
        ·
         rw [if_pos c14] at H;have c14b0:=decide_eq_true c14;clear c14
         by_cases c15:0≤x27_2
         ·
          rw [if_pos c15] at H;have c15b0:=decide_eq_true c15;clear c15
          by_cases c16:x27_2<(l0.length:Int)
          ·
           rw [if_pos c16] at H;have c16b0:=decide_eq_true c16;clear c16
           by_cases c17:a1=0
           ·
            rw [if_pos c17] at H;exact absurd H (by simp)
           ·
            rw [if_neg c17] at H;have c17b0:(a1==0)=false:=beq_eq_false_iff_ne.mpr c17;have c17b1:(a1 !=0)=true:=bne_iff_ne.mpr c17;obtain ⟨ji18,hji18⟩: ∃ j_:Int,(Int.tmod x27_2 a1)=j_:=⟨_,rfl⟩
            replace H:(if 0≤(ji18) then (if (ji18)<(x6_2.length:Int) then (Qv.l0 k2 a1 (x6_2.set ((ji18):Int).toNat (wrap64 ((rd x6_2 (ji18))+(rd l0 x27_2)))) l0 (l0.length:Int) (wrap64 (x27_2+1))) else (none)) else (none))=some (r1,r2):=by first|(rw [hji18] at H;exact H)|(simp only [hji18] at H ⊢;exact H)
            by_cases c19:0≤(ji18)
            ·
             rw [if_pos c19] at H;have c19b0:=decide_eq_true c19;clear c19
             by_cases c20:(ji18)<(x6_2.length:Int)
             ·
              rw [if_pos c20] at H;have c20b0:=decide_eq_true c20;clear c20;obtain ⟨y683,hy683⟩: ∃ y_:List Int,y_=(x6_2.set ((ji18):Int).toNat (wrap64 ((rd x6_2 (ji18))+(rd l0 x27_2)))):=⟨_,rfl⟩
              replace H:(Qv.l0 k2 a1 y683 l0 (l0.length:Int) (wrap64 (x27_2+1)))=some (r1,r2):=by first|(rw [hy683];with_reducible exact H)|(have H2_:=(Option.bind_some _ _).symm.trans H;rw [hy683];with_reducible exact H2_)|(have H2_:=(Option.bind_some _ _).symm.trans H;with_reducible exact H2_)|with_reducible exact H|(rw [hy683];exact H)|exact H
              have Ny683:=Zk hy683;clear hy683;have H':=Zk H;clear H;have p681:0≤(x27_2:Int):=of_decide_eq_true (by first|(with_reducible assumption)|assumption);have q681:x27_2<(l0.length:Int):=of_decide_eq_true (by first|(with_reducible assumption)|assumption);obtain ⟨ad681,e681,hx681_0⟩:=Kd.at_int HR0.out x27_2 p681 q681;cases e681;replace hx681_0:=(HB.out.cell (World.block_lt_of_cell? w _ hx681_0)).trans hx681_0;replace p681:=eq_true p681;replace q681:=eq_true q681;obtain ⟨Ao22,co22,eo22⟩:=Kd.R_slice HO_6.out;subst eo22;have p682:0≤((ji18):Int):=of_decide_eq_true (by first|(with_reducible assumption)|assumption);have q682:(ji18)<(x6_2.length:Int):=of_decide_eq_true (by first|(with_reducible assumption)|assumption);obtain ⟨ad682,e682,hx682_0⟩:=Kd.at_int (Kd.R_reads' HO_6.out).2.2 (ji18) p682 q682;cases e682;replace p682:=eq_true p682;replace q682:=eq_true q682;have p21:0≤((ji18):Int):=of_decide_eq_true (by first|(with_reducible assumption)|assumption);have q21:((ji18):Int)<((x6_2.length:Int):Int):=of_decide_eq_true (by first|(with_reducible assumption)|assumption);obtain ⟨go21,co21,eo21,gb21,gl21,cl21,HG21⟩:=Kd.R_form HO_6.out (by omega)
              (first|cases eo21|(injection eo21 with ea_ en_ ec_;(first|subst ea_|(injection ea_ with ea_;subst ea_));subst ec_;clear en_))
              have GB21:=Zk gb21;have GG21:=Zk HG21;clear gb21 gl21 HG21
              (first|simp only [Qd2] at hx682_0|skip)
              obtain ⟨hx21_0,hf21_0⟩:=Kd.R_celln 0 HO_6.out ((ji18):Int) p21 q21;replace p21:=eq_true p21;replace q21:=eq_true q21;have HP23:=Kd.R_putg HO_6.out ((ji18):Int) (wrap64 ((rd x6_2 (ji18))+(rd l0 x27_2)));go_wp2_with (first|((with_reducible refine Qer (t:=3) (p:=40) rfl ?_);refine Qel (t:=3) (p:=40) (v:= ?vo_w24) (w1:=(wr.setCell ⟨go21,((ji18):Int).toNat,none⟩ (.int .i64 (wrap64 ((rd x6_2 (ji18))+(rd l0 x27_2)))))) ?hg ?ho ?hn ?hr ?_;(case ho=>rfl);(case hg=>rfl);(case hn=>rfl);(case hr=>first|(go_simp;done)|(go_simp;rfl));intro w24 hw;have hg:wr.grownBy w24 (some go21):=(by rw [hw];exact HP23.2);have hp_:Kd.R (Kd.int .i64) 3 w24 w.heap.size (fun _=>True) (.slice (some ⟨go21,0,none⟩) x6_2.length co22) y683:=(by rw [hw,Ny683.out];exact HP23.1);clear HP23;replace HO_6:=Zk (hp_);replace HB:=Zk ((by rw [hw];exact Qbt (HB.out) GB21.out:Below w.heap.size w w24));clear hg hw hp_));go_roundg k2
              case measure=>have:=HJ2.out;have:=HK2.out;omega
              case rel=>exact ⟨(y683),(wrap64 (x27_2+1)),(by first|rfl|(simp;done)|(simp [*];done)),H',⟨by have:=HJ2.out;have:=HK2.out;omega⟩,⟨uR HO_6⟩,⟨uB HB⟩⟩
             ·
              rw [if_neg c20] at H;exact absurd H (by simp)
            ·
             rw [if_neg c19] at H;exact absurd H (by simp)
          ·
           rw [if_neg c16] at H;exact absurd H (by simp)
         ·
          rw [if_neg c15] at H;exact absurd H (by simp)
        ·
         rw [if_neg c14] at H;have c14b0:=decide_eq_false c14;clear c14;simp only [Option.some.injEq,Prod.mk.injEq] at H;obtain ⟨rfl,rfl⟩:=H;go_wp2
         go_ret2
         exact ⟨_,by first|rfl|(simp [Qe,Qf] <;>rfl)|(simp [*,Qe,Qf] <;>rfl),uR HO_6,uB HB⟩
     ·
      rw [if_neg c11] at H;exact absurd H (by simp)
    ·
     rw [if_neg c10] at H;exact absurd H (by simp)
mutual
def Q5.j0:Nat→Int→Int→Bool→List Int→Int→Int→Option (List Int × Int × Int)
 |0,_,_,_,_,_,_=>none
 |k+1,x3,x4,x23,x1000,x1001,x1002=>if x23=true then ((Qn.f x1000 x1001 x1002 8).bind fun bt692=>(Q5.l0 k ([] :List Int) (wrap64 (1+bt692.1)) x1000 bt692.2.1 bt692.2.2)) else ((Qdb.f k x3 x4).bind fun bt701=>((Qv.f k bt701.1 (wrap64 (x3+x4))).bind fun bt705=>((Qn.f x1000 x1001 x1002 10).bind fun bt709=>(if bt709.1=0 then ((Qn.f x1000 bt709.2.1 bt709.2.2 (bt705.1.length:Int)).bind fun bt712=>((Qdu.f x1000 bt712.2.1 bt712.2.2 (([(-1),0,100000000,100000001] :List Int))).bind fun bt718=>(if 0≤bt712.1 then (if bt712.1<(bt705.1.length:Int) then (some ((bt705.1.set (bt712.1:Int).toNat bt718.1),bt718.2.1,bt718.2.2)) else (none)) else (none)))) else (if bt709.1=1 then ((Qn.f x1000 bt709.2.1 bt709.2.2 2).bind fun bt722=>(if 0≤(wrap64 (60+bt722.1)) then (if (wrap64 (60+bt722.1):Int).toNat≤35184372088832 then (some ((List.replicate (wrap64 (60+bt722.1):Int).toNat 0),bt722.2.1,bt722.2.2)) else (none)) else (none))) else (some (bt705.1,bt709.2.1,bt709.2.2)))))))
def Q5.l0:Nat→List Int→Int→List Int→Int→Int→Option (List Int × Int × Int)
 |0,_,_,_,_,_=>none
 |k+1,x5,x6,x1000,x1001,x1002=>if x6>0 then ((Qn.f x1000 x1001 x1002 9).bind fun bt695=>(if x5.length<17592186044416 then (Q5.l0 k (x5++ [bt695.1]) (wrap64 (x6 - 1)) x1000 bt695.2.1 bt695.2.2) else (none))) else (some (x5,x1001,x1002))
end
def Q5.f (k:Nat) (s0_0:List Int) (s0_1:Int) (s0_2:Int):Option (List Int × Int × Int):=(Qc9.f s0_0 s0_1 s0_2).bind fun bt684=>((Qcu.f bt684.1 bt684.2.1).bind fun t688=>(if t688=true then ((Qbq.f s0_0 bt684.2.2.1 bt684.2.2.2 6).bind fun bt689=>(Q5.j0 k bt684.1 bt684.2.1 bt689.1 s0_0 bt689.2.1 bt689.2.2)) else (Q5.j0 k bt684.1 bt684.2.1 true s0_0 bt684.2.2.1 bt684.2.2.2)))
theorem Q5.mono_l: ∀ k,(∀ y0 y1 y2 y3 y4 y5,LeO (Q5.j0 k y0 y1 y2 y3 y4 y5) (Q5.j0 (k+1) y0 y1 y2 y3 y4 y5))∧(∀ y0 y1 y2 y3 y4,LeO (Q5.l0 k y0 y1 y2 y3 y4) (Q5.l0 (k+1) y0 y1 y2 y3 y4))
 |0=>⟨fun _ _ _ _ _ _ r h=>by simp [Q5.j0] at h,fun _ _ _ _ _ r h=>by simp [Q5.l0] at h⟩
 |k+1=>by
  obtain ⟨ih0,ih1⟩:=Q5.mono_l k;refine ⟨?_,?_⟩
  all_goals
   intros
   first|unfold Q5.j0|unfold Q5.l0
   repeat' (with_reducible first|apply ih0|apply ih1|apply Qdb.mono|apply Qv.mono|exact LeO.refl _|exact LeO.none _|refine LeO.ite ?_ ?_|refine LeO.bind ?_ (fun _=> ?_))
theorem Q5.mono: ∀ a0 a1 a2 k,LeO (Q5.f k a0 a1 a2) (Q5.f (k+1) a0 a1 a2):=by
 intro a0 a1 a2 k;obtain ⟨ih0,ih1⟩:=Q5.mono_l k;unfold Q5.f
 repeat' (with_reducible first|apply ih0|apply ih1|apply Qdb.mono|apply Qv.mono|exact LeO.refl _|exact LeO.none _|refine LeO.ite ?_ ?_|refine LeO.bind ?_ (fun _=> ?_))
set_option maxHeartbeats 8000000 in
set_option maxRecDepth 100000 in
theorem Q5.calls (k:Nat) (g:Nat) (s0_0:List Int) (s0_1:Int) (s0_2:Int) (r1:List Int) (r2:Int) (r3:Int) (w0 w:World) (hI:Qa w0 w g s0_0 s0_1 s0_2) (hB:Below w0.heap.size w0 w) (h:Q5.f k s0_0 s0_1 s0_2=some (r1,r2,r3)):
 Calls Tryz.prog 225 #[.pointer (some ⟨g,0,none⟩)] w fun e w'=> ∃ v0_:Value,e= .returned (v0_)∧Kd.R (Kd.int .i64) 3 w' w.heap.size (fun _=>True) v0_ r1∧Qa w0 w' g s0_0 r2 r3∧Below w0.heap.size w0 w'∧Qg w w' g none:=by
 have HI0:=Zk hI;have HK:=Zk (Qg.refl w g none);have HL:=Zk hB.size;clear hI;have HW0:=Zk hB.size;have HB:=Zk hB;clear hB;have H:((Qc9.f s0_0 s0_1 s0_2).bind fun bt684=>((Qcu.f bt684.1 bt684.2.1).bind fun t688=>(if t688=true then ((Qbq.f s0_0 bt684.2.2.1 bt684.2.2.2 6).bind fun bt689=>(Q5.j0 k bt684.1 bt684.2.1 bt689.1 s0_0 bt689.2.1 bt689.2.2)) else (Q5.j0 k bt684.1 bt684.2.1 true s0_0 bt684.2.2.1 bt684.2.2.2))))=some (r1,r2,r3):=h;clear h;obtain ⟨⟨t684,t685,t686,t687⟩,A2,H⟩:=bs H;(try dsimp only at H)
 have HC3:=Zk H;clear H;go_enter Tryz.func225,Tryz.ntmps225;go_upto_region 2 with (first|(refine gA (some 13) Tryz.func213 #[.pointer (some ⟨g,0,none⟩)] ?_;(with_reducible refine (Qc9.calls g s0_0 s0_1 s0_2 t684 t685 t686 t687 w0 _ (Qa.vI HI0) (Qa.vB HB) A2.out).mono ?_);rintro e w4 ⟨rfl,hi,hb,hk⟩;refine ⟨_,rfl,?_⟩;replace HK:=Zk (Qg.trans (vK HK) hk (.inl rfl));replace HB:=Zk (hb);replace HI0:=Zk (hi);(try clear hb hk hi)))
 (try simp only [Act.put,List.setIfInBounds_toArray,List.set_cons_zero,List.set_cons_succ])
 go_cut [23] (fun v23 wc=> ∃ (kq:Nat) (x23_2:Bool) (x1001_2:Int) (x1002_2:Int),v23= .bool x23_2∧Z0 (Q5.j0 kq t684 t685 x23_2 s0_0 x1001_2 x1002_2=some (r1,r2,r3))∧Z0 (kq≤k)∧Z0 (Qa w0 wc g s0_0 x1001_2 x1002_2)∧Z0 (Qg w wc g none)∧Z0 (Below w0.heap.size w0 wc))
 case first=>
  have H:=HC3.out;clear HC3;obtain ⟨t688,A5,H⟩:=bs H;(try dsimp only at H)
  by_cases c6:t688=true
  ·
   subst c6;rw [if_pos rfl] at H;obtain ⟨⟨t689,t690,t691⟩,A7,H⟩:=bs H;(try dsimp only at H)
   have H':=Zk H;clear H;go_wp2_with (first|(refine gA (some 18) Tryz.func203 #[.int .i64 t684, .int .i64 t685] ?_;(with_reducible refine (Qcu.calls t684 t685 true _ A5.out).mono ?_);rintro e w' ⟨rfl,⟨nd,rfl⟩⟩;refine ⟨_,rfl,?_⟩)|(go_at_call 161;(with_reducible refine (Qbq.calls g s0_0 t686 t687 6 t689 t690 t691 w0 _ (Qa.vI HI0) (Qa.vB HB) A7.out).mono ?_);rintro e w8 ⟨rfl,hi,hb,hk⟩;replace HK:=Zk (Qg.trans (vK HK) hk (.inl rfl));replace HB:=Zk (hb);replace HI0:=Zk (hi);(try clear hb hk hi)))
   go_meet
   case rel=>exact ⟨_,(t689),(t690),(t691),(by first|rfl|(simp;done)|(simp [*];done)),H',⟨by first|omega|exact Nat.le_refl _⟩,⟨(Qa.vI HI0)⟩,⟨(vK HK)⟩,⟨(Qa.vB HB)⟩⟩
  ·
   replace c6:=Bool.eq_false_iff.mpr c6;subst c6;rw [if_neg (show ¬ (false=true) by decide)] at H;have H':=Zk H;clear H;go_wp2_with (first|(refine gA (some 18) Tryz.func203 #[.int .i64 t684, .int .i64 t685] ?_;(with_reducible refine (Qcu.calls t684 t685 false _ A5.out).mono ?_);rintro e w' ⟨rfl,⟨nd,rfl⟩⟩;refine ⟨_,rfl,?_⟩))
   go_meet
   case rel=>exact ⟨_,(true),(t686),(t687),(by first|rfl|(simp;done)|(simp [*];done)),H',⟨by first|omega|exact Nat.le_refl _⟩,⟨(Qa.vI HI0)⟩,⟨(vK HK)⟩,⟨(Qa.vB HB)⟩⟩
 case rest=>
  clear HC3
  skip
  obtain ⟨kq,x23_2,x1001_2,x1002_2,rfl,HA,HJ2,HI0,HK,HB⟩:=hcut;cases kq with
  |zero=>exact absurd HA.out (by simp [Q5.j0])
  |succ kj2=>
   have H:=HA.out;clear HA;simp only [Q5.j0] at H
   by_cases c9:x23_2=true
   ·
    subst c9;rw [if_pos rfl] at H;obtain ⟨⟨t692,t693,t694⟩,A10,H⟩:=bs H;(try dsimp only at H)
    have H':=Zk H;clear H;go_wp2_with (first|(refine gA (some 25) Tryz.func162 #[.pointer (some ⟨g,0,none⟩), .int .i64 8] ?_;(with_reducible refine (Qn.calls g s0_0 x1001_2 x1002_2 8 t692 t693 t694 w0 _ (Qa.vI HI0) (Qa.vB HB) A10.out).mono ?_);rintro e w11 ⟨rfl,hi,hb,hk⟩;refine ⟨_,rfl,?_⟩;replace HK:=Zk (Qg.trans (vK HK) hk (.inl rfl));replace HB:=Zk (hb);replace HI0:=Zk (hi);(try clear hb hk hi)))
    go_loopg [5,6] kj2 (fun kq v5 v6 w'=> ∃ (x5_2:List Int) (x6_2:Int) (x1001_2:Int) (x1002_2:Int),v6= .int .i64 x6_2∧Z0 (Q5.l0 kq x5_2 x6_2 s0_0 x1001_2 x1002_2=some (r1,r2,r3))∧Z0 (kq≤kj2)∧Z0 (Kd.R (Kd.int .i64) 3 w' w.heap.size (fun _=>True) v5 x5_2)∧Z0 (Qa w0 w' g s0_0 x1001_2 x1002_2)∧Z0 (Qg w w' g none)∧Z0 (Below w0.heap.size w0 w'))
    case atStart=>exact ⟨(([] :List Int)),(wrap64 (1+t692)),(t693),(t694),(by first|rfl|(simp;done)|(simp [*];done)),H',⟨Nat.le_refl _⟩,⟨by first|exact Kd.R_nil _ _ _ _ _|exact Kd.N_nil _ _ _ _ _|exact Kd.V_nil _ _ _ _ _|exact Kd.Q_nil _ _ _ _ _|exact Kd.S_nil _ _ _ _ _⟩,⟨(Qa.vI HI0)⟩,⟨(vK HK)⟩,⟨(Qa.vB HB)⟩⟩
    case round=>
     clear H'
     skip
     obtain ⟨x5_2,x6_2,x1001_2,x1002_2,rfl,HA,HK2,HO_5,HI0,HK,HB⟩:=hrel;cases gk with
     |zero=>exact absurd HA.out (by simp [Q5.l0])
     |succ k2=>
      have H:=HA.out;clear HA;simp only [Q5.l0] at H
      by_cases c12:x6_2>0
      ·
       rw [if_pos c12] at H;have c12b0:=decide_eq_true c12;clear c12;obtain ⟨⟨t695,t696,t697⟩,A13,H⟩:=bs H;(try dsimp only at H)
       by_cases c14:x5_2.length<17592186044416
       ·
        rw [if_pos c14] at H;have LMc14:=Zk c14;clear c14;obtain ⟨y698,hy698⟩: ∃ y_:List Int,y_=(x5_2++ [t695]):=⟨_,rfl⟩
        replace H:(Q5.l0 k2 y698 (wrap64 (x6_2 - 1)) s0_0 t696 t697)=some (r1,r2,r3):=by first|(rw [hy698];with_reducible exact H)|(have H2_:=(Option.bind_some _ _).symm.trans H;rw [hy698];with_reducible exact H2_)|(have H2_:=(Option.bind_some _ _).symm.trans H;with_reducible exact H2_)|with_reducible exact H|(rw [hy698];exact H)|exact H
        have Ny698:=Zk hy698;clear hy698;have H':=Zk H;clear H;go_wp2_with (first|(refine gA (some 33) Tryz.func162 #[.pointer (some ⟨g,0,none⟩), .int .i64 9] ?_;(with_reducible refine (Qn.calls g s0_0 x1001_2 x1002_2 9 t695 t696 t697 w0 _ (Qa.vI HI0) (Qa.vB HB) A13.out).mono ?_);rintro e w15 ⟨rfl,hi,hb,hk⟩;refine ⟨_,rfl,?_⟩;replace HO_5:=Zk (Kd.R_mono (Kd.R_keep (Qa.apart (show Qa w0 _ g s0_0 x1001_2 x1002_2 from (Qa.vI HI0)) (uR HO_5) (by decide)) hk (fun _ h=>h.2)) (fun _ h=>h.1));replace HK:=Zk (Qg.trans (vK HK) hk (.inl rfl));replace HB:=Zk (hb);replace HI0:=Zk (hi);(try clear hb hk hi))|((with_reducible refine Qb1 (b:= .append) (xs:= #[.tmp 31, .tmp 34]) rfl ?_);at_builtin;refine Kd.R_append (Kd.int .i64) w.heap.size rfl (.tmp 31) (.tmp 34) 24 3 (.int .i64 0) 8 rfl Tryz.underlying24 Qdq rfl (by decide) (by omega) u5 x5_2 t695 [.int .i64 t695] (fun _=>True) (fun _=>False) rfl rfl ?aP (fun _ hk=>hk.elim) ?aF ?aO (Below.refl _ _) ?aS ?aL ?_;(case aP=>exact rfl);(case aF=>exact (fun _ _=>trivial));(case aO=>exact (uR HO_5));(case aS=>exact (Qbe (w:=w) (g:=g) (row:=none) (vK HK)));(case aL=>have:=LMc14.out;omega);intro v699 w16 ho hb hg hat;rw [←Ny698.out] at ho;replace HI0:=Zk (Qa.grown (Qa.vI HI0) hg (Qa.own_ne HI0.out HO_5.out (by decide)));replace HB:=Zk (Qit (Qa.vB HB) HL.out hb);replace HK:=Zk (Qg.trans (vK HK) (Qg.of_grown hg g) (Kd.R_base2 HO_5.out));have HO700:=Zk (ho);clear HO_5;clear ho hb hg hat));go_roundg k2
        case measure=>have:=HJ2.out;have:=HK2.out;omega
        case rel=>exact ⟨(y698),(wrap64 (x6_2 - 1)),(t696),(t697),(by first|rfl|(simp;done)|(simp [*];done)),H',⟨by have:=HJ2.out;have:=HK2.out;omega⟩,⟨uR HO700⟩,⟨(Qa.vI HI0)⟩,⟨(vK HK)⟩,⟨(Qa.vB HB)⟩⟩
       ·
        rw [if_neg c14] at H;exact absurd H (by simp)
      ·
       rw [if_neg c12] at H;have c12b0:=decide_eq_false c12;clear c12;simp only [Option.some.injEq,Prod.mk.injEq] at H;obtain ⟨rfl,rfl,rfl⟩:=H;go_wp2
       go_ret
       exact ⟨_,by first|rfl|(simp [Qe,Qf] <;>rfl)|(simp [*,Qe,Qf] <;>rfl),uR HO_5,(Qa.vI HI0),(Qa.vB HB),(vK HK)⟩
   ·
    replace c9:=Bool.eq_false_iff.mpr c9;subst c9;rw [if_neg (show ¬ (false=true) by decide)] at H;obtain ⟨⟨t701,t702⟩,A17,H⟩:=bs H;(try dsimp only at H)
    obtain ⟨⟨t705,t706⟩,A18,H⟩:=bs H;(try dsimp only at H)
    obtain ⟨⟨t709,t710,t711⟩,A19,H⟩:=bs H;(try dsimp only at H)
    by_cases c20:t709=0
    ·
     rw [if_pos c20] at H;have c20b0:(t709==0)=true:=beq_iff_eq.mpr c20;have c20b1:(t709 !=0)=false:=bne_eq_false_iff_eq.mpr c20;clear c20;obtain ⟨⟨t712,t713,t714⟩,A21,H⟩:=bs H;(try dsimp only at H)
     obtain ⟨y715,hy715⟩: ∃ y_:List Int,y_=(([(-1),0,100000000,100000001] :List Int)):=⟨_,rfl⟩
     replace H:((Qdu.f s0_0 t713 t714 y715).bind fun bt718=>(if 0≤t712 then (if t712<(t705.length:Int) then (some ((t705.set (t712:Int).toNat bt718.1),bt718.2.1,bt718.2.2)) else (none)) else (none)))=some (r1,r2,r3):=by first|(rw [hy715];with_reducible exact H)|(have H2_:=(Option.bind_some _ _).symm.trans H;rw [hy715];with_reducible exact H2_)|(have H2_:=(Option.bind_some _ _).symm.trans H;with_reducible exact H2_)|with_reducible exact H|(rw [hy715];exact H)|exact H
     have Ny715:=Zk hy715;clear hy715;obtain ⟨⟨t718,t719,t720⟩,A22,H⟩:=bs H;(try dsimp only at H)
     by_cases c23:0≤t712
     ·
      rw [if_pos c23] at H;have c23b0:=decide_eq_true c23;clear c23
      by_cases c24:t712<(t705.length:Int)
      ·
       rw [if_pos c24] at H;have c24b0:=decide_eq_true c24;clear c24;obtain ⟨y721,hy721⟩: ∃ y_:List Int,y_=(t705.set (t712:Int).toNat t718):=⟨_,rfl⟩
       replace H:(some (y721,t719,t720))=some (r1,r2,r3):=by first|(rw [hy721];with_reducible exact H)|(have H2_:=(Option.bind_some _ _).symm.trans H;rw [hy721];with_reducible exact H2_)|(have H2_:=(Option.bind_some _ _).symm.trans H;with_reducible exact H2_)|with_reducible exact H|(rw [hy721];exact H)|exact H
       have Ny721:=Zk hy721;clear hy721;simp only [Option.some.injEq,Prod.mk.injEq] at H;obtain ⟨rfl,rfl,rfl⟩:=H;go_wp2_with (first|(refine gA (some 40) Tryz.func61 #[.int .i64 t684, .int .i64 t685] ?_;(with_reducible refine (Qdb.calls kj2 t684 t685 t701 t702 _ A17.out).mono ?_);rintro e w26 ⟨v703,rfl,ho0,hb⟩;refine ⟨_,rfl,?_⟩;have HO704:=Zk (Kd.R_lower ho0 (Qbe (w:=w) (g:=g) (row:=none) (vK HK)));replace HI0:=Zk (Qa.below (Qa.vI HI0) hb);replace HK:=Zk (Qg.trans (vK HK) (Qg.of_below hb g none) (.inl rfl));replace HB:=Zk (Qb (Qa.vB HB) hb);(try clear hb ho0);obtain ⟨Ao27,co27,eo27⟩:=Kd.R_slice HO704.out;subst eo27)|(refine gA (some 48) Tryz.func71 #[.slice Ao27 t701.length co27, .int .i64 (wrap64 (t684+t685))] ?_;(with_reducible refine (Qv.calls kj2 _ _ t701 (wrap64 (t684+t685)) t705 t706 _ (uE HO704) ?side2 A18.out).mono ?_);(case side2=>exact (Kd.R_reads' HO704.out).2.1);rintro e w28 ⟨v707,rfl,ho0,hb⟩;refine ⟨_,rfl,?_⟩;have HO708:=Zk (Kd.R_lower (Kd.R_new' ho0 (Kd.R_lt (uR HO704))) (Qbe (w:=w) (g:=g) (row:=none) (vK HK)));replace HO704:=Zk (Kd.R_elder' (uR HO704) (Kd.R_base ho0) hb);replace HI0:=Zk (Qa.below (Qa.vI HI0) hb);replace HK:=Zk (Qg.trans (vK HK) (Qg.of_below hb g none) (.inl rfl));replace HB:=Zk (Qb (Qa.vB HB) hb);(try clear hb ho0))|(refine gA (some 52) Tryz.func162 #[.pointer (some ⟨g,0,none⟩), .int .i64 10] ?_;(with_reducible refine (Qn.calls g s0_0 x1001_2 x1002_2 10 t709 t710 t711 w0 _ (Qa.vI HI0) (Qa.vB HB) A19.out).mono ?_);rintro e w29 ⟨rfl,hi,hb,hk⟩;refine ⟨_,rfl,?_⟩;replace HO704:=Zk (Kd.R_mono (Kd.R_keep (Qa.apart (show Qa w0 _ g s0_0 x1001_2 x1002_2 from (Qa.vI HI0)) (uR HO704) (by decide)) hk (fun _ h=>h.2)) (fun _ h=>h.1));replace HO708:=Zk (Kd.R_mono (Kd.R_keep (Qa.apart (show Qa w0 _ g s0_0 x1001_2 x1002_2 from (Qa.vI HI0)) (uR HO708) (by decide)) hk (fun _ h=>h.2)) (fun _ h=>h.1));replace HK:=Zk (Qg.trans (vK HK) hk (.inl rfl));replace HB:=Zk (hb);replace HI0:=Zk (hi);(try clear hb hk hi);obtain ⟨Ao30,co30,eo30⟩:=Kd.R_slice HO708.out;subst eo30)|(refine gA (some 59) Tryz.func162 #[.pointer (some ⟨g,0,none⟩), .int .i64 (t705.length:Int)] ?_;(with_reducible refine (Qn.calls g s0_0 t710 t711 (t705.length:Int) t712 t713 t714 w0 _ (Qa.vI HI0) (Qa.vB HB) A21.out).mono ?_);rintro e w31 ⟨rfl,hi,hb,hk⟩;refine ⟨_,rfl,?_⟩;replace HO704:=Zk (Kd.R_mono (Kd.R_keep (Qa.apart (show Qa w0 _ g s0_0 t710 t711 from (Qa.vI HI0)) (uR HO704) (by decide)) hk (fun _ h=>h.2)) (fun _ h=>h.1));replace HO708:=Zk (Kd.R_mono (Kd.R_keep (Qa.apart (show Qa w0 _ g s0_0 t710 t711 from (Qa.vI HI0)) (uR HO708) (by decide)) hk (fun _ h=>h.2)) (fun _ h=>h.1));replace HK:=Zk (Qg.trans (vK HK) hk (.inl rfl));replace HB:=Zk (hb);replace HI0:=Zk (hi);(try clear hb hk hi))|((with_reducible refine Qu (N:=61) rfl ?_);refine Kd.R_lit (Kd.int .i64) _ 3 ?hg (N:=61) ?hd (xs:=([(-1),0,100000000,100000001] :List Int)) (inner:= [.int .i64 (-1), .int .i64 0, .int .i64 100000000, .int .i64 100000001]) (ok:=fun _=>True) (okp:=fun _=>True) ?hr ?hp (fun _ hk=>hk) trivial (Below.refl _ _) (Nat.le_refl _) (by simp) ?_;(case hd=>rfl);(case hg=>rfl);(case hr=>first|(go_simp;done)|(go_simp;rfl));(case hp=>exact (Reps.one (show Kd.M (Kd.int .i64) _ _ _ (-1) [.int .i64 (-1)] from rfl) (Reps.one (show Kd.M (Kd.int .i64) _ _ _ 0 [.int .i64 0] from rfl) (Reps.one (show Kd.M (Kd.int .i64) _ _ _ 100000000 [.int .i64 100000000] from rfl) (Reps.one (show Kd.M (Kd.int .i64) _ _ _ 100000001 [.int .i64 100000001] from rfl) (Reps.none _ _))))));intro v716 w32 ho33 hb hg_ hnew_;clear hg_ hnew_;(first|rw [←Ny715.out] at ho33|(simp only [Int.reduceToNat] at ho33;rw [←Ny715.out] at ho33));have HO717:=Zk (Kd.R_lower (Kd.R_new' (Kd.R_new' ho33 (Kd.R_lt (uR HO704))) (Kd.R_lt (uR HO708))) (Qbe (w:=w) (g:=g) (row:=none) (vK HK)));replace HO704:=Zk (Kd.R_elder' (uR HO704) (Kd.R_base ho33) hb);replace HO708:=Zk (Kd.R_elder' (uR HO708) (Kd.R_base ho33) hb);replace HI0:=Zk (Qa.below (Qa.vI HI0) hb);replace HK:=Zk (Qg.trans (vK HK) (Qg.of_below hb g none) (.inl rfl));replace HB:=Zk (Qb (Qa.vB HB) hb);clear hb ho33;obtain ⟨Ao34,co34,eo34⟩:=Kd.R_slice HO717.out;subst eo34)|(refine gA (some 62) Tryz.func190 #[.pointer (some ⟨g,0,none⟩), .slice Ao34 y715.length co34] ?_;(with_reducible refine (Qdu.calls g s0_0 t713 t714 _ _ y715 t718 t719 t720 w0 _ (Qa.vI HI0) (Qa.vB HB) (uE HO717) ?side4 ?side5 A22.out).mono ?_);(case side4=>exact (Kd.R_reads' HO717.out).2.1);(case side5=>exact Qic (Qa.own_ne HI0.out HO717.out (by decide)));rintro e w35 ⟨rfl,hi,hb,hk⟩;refine ⟨_,rfl,?_⟩;replace HO704:=Zk (Kd.R_mono (Kd.R_keep (Qa.apart (show Qa w0 _ g s0_0 t713 t714 from (Qa.vI HI0)) (uR HO704) (by decide)) hk (fun _ h=>h.2)) (fun _ h=>h.1));replace HO708:=Zk (Kd.R_mono (Kd.R_keep (Qa.apart (show Qa w0 _ g s0_0 t713 t714 from (Qa.vI HI0)) (uR HO708) (by decide)) hk (fun _ h=>h.2)) (fun _ h=>h.1));replace HO717:=Zk (Kd.R_mono (Kd.R_keep (Qa.apart (show Qa w0 _ g s0_0 t713 t714 from (Qa.vI HI0)) (uR HO717) (by decide)) hk (fun _ h=>h.2)) (fun _ h=>h.1));replace HK:=Zk (Qg.trans (vK HK) hk (.inl rfl));replace HB:=Zk (hb);replace HI0:=Zk (hi);(try clear hb hk hi);have p25:0≤(t712:Int):=of_decide_eq_true (by first|(with_reducible assumption)|assumption);have q25:(t712:Int)<((t705.length:Int):Int):=of_decide_eq_true (by first|(with_reducible assumption)|assumption);obtain ⟨go25,co25,eo25,gb25,gl25,cl25,HG25⟩:=Kd.R_form HO708.out (by omega);(first|cases eo25|(injection eo25 with ea_ en_ ec_;(first|subst ea_|(injection ea_ with ea_;subst ea_));subst ec_;clear en_));have GB25:=Zk gb25;have GG25:=Zk HG25;clear gb25 gl25 HG25;obtain ⟨hx25_0,hf25_0⟩:=Kd.R_celln 0 HO708.out (t712:Int) p25 q25;replace p25:=eq_true p25;replace q25:=eq_true q25;have n_:=Zk (Kd.R_mono (ok':=(fun k_=>some k_≠(.slice Ao27 t701.length co27:Value).ownBlock∧some k_≠(.slice Ao34 y715.length co34:Value).ownBlock)) HO708.out (fun k_ hk=>⟨hk.1.2,hk.2⟩));clear HO708;have HO708:=n_;clear n_;obtain ⟨hy36_,hz36_⟩:=Kd.R_celln 0 HO708.out (t712:Int) (of_decide_eq_true (by first|(with_reducible assumption)|assumption)) (of_decide_eq_true (by first|(with_reducible assumption)|assumption));have HP36:=Kd.R_putg HO708.out (t712:Int) t718)|((with_reducible refine Qer (t:=3) (p:=63) rfl ?_);refine Qel (t:=3) (p:=63) (v:= ?vo_w37) (w1:=(w35.setCell ⟨go25,(t712:Int).toNat,none⟩ (.int .i64 t718))) ?hg ?ho ?hn ?hr ?_;(case ho=>rfl);(case hg=>rfl);(case hn=>rfl);(case hr=>first|(go_simp;done)|(go_simp;rfl));intro w37 hw;have hg:w35.grownBy w37 (some go25):=(by rw [hw];exact HP36.2);have hp_:Kd.R (Kd.int .i64) 3 w37 w.heap.size (fun k_=>some k_≠(.slice Ao27 t701.length co27:Value).ownBlock∧some k_≠(.slice Ao34 y715.length co34:Value).ownBlock) (.slice (some ⟨go25,0,none⟩) t705.length co30) y721:=(by rw [hw,Ny721.out];exact HP36.1);clear HP36;replace HI0:=Zk (Qa.grown (Qa.vI HI0) hg (Qa.own_ne HI0.out HO708.out (by decide)));replace HO704:=Zk (Kd.R_after (v:=(.slice (some ⟨go25,0,none⟩) t705.length co30)) (v1:=(.slice (some ⟨go25,0,none⟩) t705.length co30)) (ok:=(fun k_=>some k_≠(.slice Ao34 y715.length co34:Value).ownBlock)) (Kd.R_mono (uR HO704) (fun _ hk=>⟨hk.2,hk.1.2⟩)) hg (.inl rfl));replace HO717:=Zk (Kd.R_after (v:=(.slice (some ⟨go25,0,none⟩) t705.length co30)) (v1:=(.slice (some ⟨go25,0,none⟩) t705.length co30)) (ok:=(fun k_=>some k_≠(.slice Ao27 t701.length co27:Value).ownBlock)) (Kd.R_mono (uR HO717) (fun _ hk=>⟨hk.1.2,hk.2⟩)) hg (.inl rfl));replace HB:=Zk ((by rw [hw];exact Qbt (HB.out) (Nat.le_trans HL.out GB25.out):Below w0.heap.size w0 w37));replace HK:=Zk (Qg.trans (vK HK) (Qg.of_grown hg g) (Kd.R_base2 HO708.out));replace HO708:=Zk (hp_);clear hg hw hp_))
       go_ret
       exact ⟨_,by first|rfl|(simp [Qe,Qf] <;>rfl)|(simp [*,Qe,Qf] <;>rfl),Kd.R_mono (uR HO708) (fun _ hk=>trivial),(Qa.vI HI0),(Qa.vB HB),(vK HK)⟩
      ·
       rw [if_neg c24] at H;exact absurd H (by simp)
     ·
      rw [if_neg c23] at H;exact absurd H (by simp)
    ·
     rw [if_neg c20] at H;have c20b0:(t709==0)=false:=beq_eq_false_iff_ne.mpr c20;have c20b1:(t709 !=0)=true:=bne_iff_ne.mpr c20
     by_cases c38:t709=1
     ·
      rw [if_pos c38] at H;have c38b0:(t709==1)=true:=beq_iff_eq.mpr c38;have c38b1:(t709 !=1)=false:=bne_eq_false_iff_eq.mpr c38;clear c38;obtain ⟨⟨t722,t723,t724⟩,A39,H⟩:=bs H;(try dsimp only at H)
      obtain ⟨ji40,hji40⟩: ∃ j_:Int,(wrap64 (60+t722))=j_:=⟨_,rfl⟩
      replace H:(if 0≤(ji40) then (if (ji40:Int).toNat≤35184372088832 then (some ((List.replicate (ji40:Int).toNat 0),t723,t724)) else (none)) else (none))=some (r1,r2,r3):=by first|(rw [hji40] at H;exact H)|(simp only [hji40] at H ⊢;exact H)
      (try rw [hji40] at A17)
      (try rw [hji40] at A18)
      (try rw [hji40] at A19)
      (try rw [hji40] at A39)
      have hji40w:(IntKind.i64.wrap (60+t722))=ji40:=(Qcm _).trans hji40
      by_cases c41:0≤(ji40)
      ·
       rw [if_pos c41] at H;have c41b0:=eq_true c41;have c41b1:=decide_eq_true c41;clear c41
       by_cases c42:(ji40:Int).toNat≤35184372088832
       ·
        rw [if_pos c42] at H;have c42b0:=eq_true c42;have c42b1:=decide_eq_true c42;clear c42;obtain ⟨y725,hy725⟩: ∃ y_:List Int,y_=(List.replicate (ji40:Int).toNat 0):=⟨_,rfl⟩
        replace H:(some (y725,t723,t724))=some (r1,r2,r3):=by first|(rw [hy725];with_reducible exact H)|(have H2_:=(Option.bind_some _ _).symm.trans H;rw [hy725];with_reducible exact H2_)|(have H2_:=(Option.bind_some _ _).symm.trans H;with_reducible exact H2_)|with_reducible exact H|(rw [hy725];exact H)|exact H
        have Ny725:=Zk hy725;clear hy725;simp only [Option.some.injEq,Prod.mk.injEq] at H;obtain ⟨rfl,rfl,rfl⟩:=H;go_wp2_with (first|(refine gA (some 40) Tryz.func61 #[.int .i64 t684, .int .i64 t685] ?_;(with_reducible refine (Qdb.calls kj2 t684 t685 t701 t702 _ A17.out).mono ?_);rintro e w43 ⟨v703,rfl,ho0,hb⟩;refine ⟨_,rfl,?_⟩;have HO704:=Zk (Kd.R_lower ho0 (Qbe (w:=w) (g:=g) (row:=none) (vK HK)));replace HI0:=Zk (Qa.below (Qa.vI HI0) hb);replace HK:=Zk (Qg.trans (vK HK) (Qg.of_below hb g none) (.inl rfl));replace HB:=Zk (Qb (Qa.vB HB) hb);(try clear hb ho0);obtain ⟨Ao44,co44,eo44⟩:=Kd.R_slice HO704.out;subst eo44)|(refine gA (some 48) Tryz.func71 #[.slice Ao44 t701.length co44, .int .i64 (wrap64 (t684+t685))] ?_;(with_reducible refine (Qv.calls kj2 _ _ t701 (wrap64 (t684+t685)) t705 t706 _ (uE HO704) ?side2 A18.out).mono ?_);(case side2=>exact (Kd.R_reads' HO704.out).2.1);rintro e w45 ⟨v707,rfl,ho0,hb⟩;refine ⟨_,rfl,?_⟩;have HO708:=Zk (Kd.R_lower (Kd.R_new' ho0 (Kd.R_lt (uR HO704))) (Qbe (w:=w) (g:=g) (row:=none) (vK HK)));replace HO704:=Zk (Kd.R_elder' (uR HO704) (Kd.R_base ho0) hb);replace HI0:=Zk (Qa.below (Qa.vI HI0) hb);replace HK:=Zk (Qg.trans (vK HK) (Qg.of_below hb g none) (.inl rfl));replace HB:=Zk (Qb (Qa.vB HB) hb);(try clear hb ho0))|(refine gA (some 52) Tryz.func162 #[.pointer (some ⟨g,0,none⟩), .int .i64 10] ?_;(with_reducible refine (Qn.calls g s0_0 x1001_2 x1002_2 10 t709 t710 t711 w0 _ (Qa.vI HI0) (Qa.vB HB) A19.out).mono ?_);rintro e w46 ⟨rfl,hi,hb,hk⟩;refine ⟨_,rfl,?_⟩;replace HO704:=Zk (Kd.R_mono (Kd.R_keep (Qa.apart (show Qa w0 _ g s0_0 x1001_2 x1002_2 from (Qa.vI HI0)) (uR HO704) (by decide)) hk (fun _ h=>h.2)) (fun _ h=>h.1));replace HO708:=Zk (Kd.R_mono (Kd.R_keep (Qa.apart (show Qa w0 _ g s0_0 x1001_2 x1002_2 from (Qa.vI HI0)) (uR HO708) (by decide)) hk (fun _ h=>h.2)) (fun _ h=>h.1));replace HK:=Zk (Qg.trans (vK HK) hk (.inl rfl));replace HB:=Zk (hb);replace HI0:=Zk (hi);(try clear hb hk hi))|(refine gA (some 67) Tryz.func162 #[.pointer (some ⟨g,0,none⟩), .int .i64 2] ?_;(with_reducible refine (Qn.calls g s0_0 t710 t711 2 t722 t723 t724 w0 _ (Qa.vI HI0) (Qa.vB HB) A39.out).mono ?_);rintro e w47 ⟨rfl,hi,hb,hk⟩;refine ⟨_,rfl,?_⟩;replace HO704:=Zk (Kd.R_mono (Kd.R_keep (Qa.apart (show Qa w0 _ g s0_0 t710 t711 from (Qa.vI HI0)) (uR HO704) (by decide)) hk (fun _ h=>h.2)) (fun _ h=>h.1));replace HO708:=Zk (Kd.R_mono (Kd.R_keep (Qa.apart (show Qa w0 _ g s0_0 t710 t711 from (Qa.vI HI0)) (uR HO708) (by decide)) hk (fun _ h=>h.2)) (fun _ h=>h.1));replace HK:=Zk (Qg.trans (vK HK) hk (.inl rfl));replace HB:=Zk (hb);replace HI0:=Zk (hi);(try clear hb hk hi))|((with_reducible refine Qu (N:=69) rfl ?_);refine Kd.R_make (Kd.int .i64) _ 3 rfl (N:=69) rfl 24 _ _ rfl ji40 rfl rfl Tryz.underlying24 (.int .i64 0) 8 Qdq rfl (by decide) (by omega) 0 (ok:=fun _=>True) (okp:=fun _=>True) rfl (fun _ hk=>hk) trivial (of_decide_eq_true (by first|(with_reducible assumption)|assumption)) (Nat.le_trans (Nat.mul_le_mul_right _ (of_decide_eq_true (by first|(with_reducible assumption)|assumption):ji40.toNat≤35184372088832)) (by omega)) (Below.refl _ _) (Nat.le_refl _) ?_;intro v726 w48 ho49 hb hg_ hnew_;clear hg_ hnew_;(first|rw [←Ny725.out] at ho49|(simp only [Int.reduceToNat] at ho49;rw [←Ny725.out] at ho49));have HO727:=Zk (Kd.R_lower (Kd.R_new' (Kd.R_new' ho49 (Kd.R_lt (uR HO704))) (Kd.R_lt (uR HO708))) (Qbe (w:=w) (g:=g) (row:=none) (vK HK)));replace HO704:=Zk (Kd.R_elder' (uR HO704) (Kd.R_base ho49) hb);replace HO708:=Zk (Kd.R_elder' (uR HO708) (Kd.R_base ho49) hb);replace HI0:=Zk (Qa.below (Qa.vI HI0) hb);replace HK:=Zk (Qg.trans (vK HK) (Qg.of_below hb g none) (.inl rfl));replace HB:=Zk (Qb (Qa.vB HB) hb);clear hb ho49))
        go_ret
        exact ⟨_,by first|rfl|(simp [Qe,Qf] <;>rfl)|(simp only [←hji40];first|rfl|(simp [Qe,Qf] <;>rfl))|(simp [*,Qe,Qf] <;>rfl),Kd.R_mono (uR HO727) (fun _ hk=>trivial),(Qa.vI HI0),(Qa.vB HB),(vK HK)⟩
       ·
        rw [if_neg c42] at H;exact absurd H (by simp)
      ·
       rw [if_neg c41] at H;exact absurd H (by simp)
     ·
      rw [if_neg c38] at H;have c38b0:(t709==1)=false:=beq_eq_false_iff_ne.mpr c38;have c38b1:(t709 !=1)=true:=bne_iff_ne.mpr c38;simp only [Option.some.injEq,Prod.mk.injEq] at H;obtain ⟨rfl,rfl,rfl⟩:=H;go_wp2_with (first|(refine gA (some 40) Tryz.func61 #[.int .i64 t684, .int .i64 t685] ?_;(with_reducible refine (Qdb.calls kj2 t684 t685 t701 t702 _ A17.out).mono ?_);rintro e w50 ⟨v703,rfl,ho0,hb⟩;refine ⟨_,rfl,?_⟩;have HO704:=Zk (Kd.R_lower ho0 (Qbe (w:=w) (g:=g) (row:=none) (vK HK)));replace HI0:=Zk (Qa.below (Qa.vI HI0) hb);replace HK:=Zk (Qg.trans (vK HK) (Qg.of_below hb g none) (.inl rfl));replace HB:=Zk (Qb (Qa.vB HB) hb);(try clear hb ho0);obtain ⟨Ao51,co51,eo51⟩:=Kd.R_slice HO704.out;subst eo51)|(refine gA (some 48) Tryz.func71 #[.slice Ao51 t701.length co51, .int .i64 (wrap64 (t684+t685))] ?_;(with_reducible refine (Qv.calls kj2 _ _ t701 (wrap64 (t684+t685)) t705 t706 _ (uE HO704) ?side2 A18.out).mono ?_);(case side2=>exact (Kd.R_reads' HO704.out).2.1);rintro e w52 ⟨v707,rfl,ho0,hb⟩;refine ⟨_,rfl,?_⟩;have HO708:=Zk (Kd.R_lower (Kd.R_new' ho0 (Kd.R_lt (uR HO704))) (Qbe (w:=w) (g:=g) (row:=none) (vK HK)));replace HO704:=Zk (Kd.R_elder' (uR HO704) (Kd.R_base ho0) hb);replace HI0:=Zk (Qa.below (Qa.vI HI0) hb);replace HK:=Zk (Qg.trans (vK HK) (Qg.of_below hb g none) (.inl rfl));replace HB:=Zk (Qb (Qa.vB HB) hb);(try clear hb ho0))|(refine gA (some 52) Tryz.func162 #[.pointer (some ⟨g,0,none⟩), .int .i64 10] ?_;(with_reducible refine (Qn.calls g s0_0 x1001_2 x1002_2 10 t709 t710 t711 w0 _ (Qa.vI HI0) (Qa.vB HB) A19.out).mono ?_);rintro e w53 ⟨rfl,hi,hb,hk⟩;refine ⟨_,rfl,?_⟩;replace HO704:=Zk (Kd.R_mono (Kd.R_keep (Qa.apart (show Qa w0 _ g s0_0 x1001_2 x1002_2 from (Qa.vI HI0)) (uR HO704) (by decide)) hk (fun _ h=>h.2)) (fun _ h=>h.1));replace HO708:=Zk (Kd.R_mono (Kd.R_keep (Qa.apart (show Qa w0 _ g s0_0 x1001_2 x1002_2 from (Qa.vI HI0)) (uR HO708) (by decide)) hk (fun _ h=>h.2)) (fun _ h=>h.1));replace HK:=Zk (Qg.trans (vK HK) hk (.inl rfl));replace HB:=Zk (hb);replace HI0:=Zk (hi);(try clear hb hk hi)))
      go_ret
      exact ⟨_,by first|rfl|(simp [Qe,Qf] <;>rfl)|(simp [*,Qe,Qf] <;>rfl),Kd.R_mono (uR HO708) (fun _ hk=>trivial),(Qa.vI HI0),(Qa.vB HB),(vK HK)⟩
def Qda.f (k:Nat) (l0:List Int):Option (List Int):=(Q5.f k l0 0 0).bind fun bt729=>(some bt729.1)
theorem Qda.mono: ∀ a0 k,LeO (Qda.f k a0) (Qda.f (k+1) a0):=by
 intro a0 k;unfold Qda.f
 repeat' (with_reducible first|apply Q5.mono|exact LeO.refl _|exact LeO.none _|refine LeO.ite ?_ ?_|refine LeO.bind ?_ (fun _=> ?_))
set_option maxHeartbeats 8000000 in
set_option maxRecDepth 100000 in
theorem Qda.calls (k:Nat) (A0:Option Addr) (c0:Nat) (l0:List Int) (r:List Int) (w:World) (hr0:Kd.C (Kd.int .u8) w A0 l0.length l0) (hc0:l0.length≤c0) (h:Qda.f k l0=some r):
 Calls Tryz.prog 140 #[.slice A0 l0.length c0] w fun e w'=> ∃ v0_:Value,e= .returned (v0_)∧Kd.R (Kd.int .i64) 3 w' w.heap.size (fun _=>True) v0_ r∧Below w.heap.size w w':=by
 have hu94:=Tryz.underlying94;have HR0:=Zk hr0;have HC0:=Zk hc0;clear hr0 hc0;have HB:=Zk (Below.refl w.heap.size w);have H:((Q5.f k l0 0 0).bind fun bt729=>(some bt729.1))=some r:=h;clear h;obtain ⟨⟨t729,t732,t733⟩,A2,H⟩:=bs H;(try dsimp only at H)
 obtain rfl:=Option.some.inj H;go_enter Tryz.func140,Tryz.ntmps140;go_wp2_with (first|((with_reducible refine Qu (N:=6) rfl ?_);refine Qfh ?hg (N:=6) ?hd (cs:= #[.slice A0 l0.length c0, .int .i64 0, .int .u64 0]) (t:=94) ?hr ?_;(case hd=>rfl);(case hg=>rfl);(case hr=>first|(go_simp;done)|(go_simp;rfl));intro gb728 hg w3 hbox hb;have HI728:=Zk ((⟨_,_,hbox,(by rw [hg];exact (Qh (by repeat (first|(with_reducible first|exact HB.out|apply Qj|apply Qk|apply Q2)|exact HB.out))):w.heap.size≤gb728),HR0.out⟩:Qa w _ gb728 l0 0 0));have GW728:=Zk ((by rw [hg];exact (Qh (by repeat (first|(with_reducible first|exact HB.out|apply Qj|apply Qk|apply Q2)|exact HB.out))):w.heap.size≤gb728));have GE728:=GW728;replace HB:=Zk (Qb (by repeat (first|(with_reducible first|exact HB.out|apply Qj|apply Qk|apply Q2)|exact HB.out)) hb);clear hb hbox hg)|((with_reducible refine Qc5 (f:=225) rfl ?_);refine Qd3 (some 8) rfl rfl Tryz.func225 (by kernel_rfl) rfl #[.pointer (some ⟨gb728,0,none⟩)] rfl (by (try simp only [List.map_toArray,List.map_cons,List.map_nil]);first|done|rfl|(simp only [List.length_drop,List.length_take];rfl)) ?_;(with_reducible refine (Q5.calls k gb728 l0 0 0 t729 t732 t733 w _ ?side1 ?side2 A2.out).mono ?_);(case side1=>repeat (first|(with_reducible first|exact HI728.out|apply Qa.alloc|apply Qa.drewN|apply Qa.drew|apply Qa.set_1|apply Qa.set_2)|exact HI728.out));(case side2=>repeat (first|(with_reducible first|exact HB.out|apply Qj|apply Qk|apply Q2|refine Qbt ?_ (Qa.ge HI728.out))|exact HB.out));rintro e w4 ⟨v730,rfl,ho0,hi,hb,hk⟩;refine ⟨_,rfl,?_⟩;have HO731:=Zk (Kd.R_lower ho0 (Qh (by repeat (first|(with_reducible first|exact HB.out|apply Qj|apply Qk|apply Q2|refine Qbt ?_ (Qa.ge HI728.out))|exact HB.out))));replace HB:=Zk (hb);replace HI728:=Zk (hi);(try clear hb);(try clear hb2);(try clear hk);(try clear hi);(try clear ho0)))
 go_ret
 exact ⟨_,by first|rfl|(simp [Qe,Qf] <;>rfl)|(simp [*,Qe,Qf] <;>rfl),uR HO731,(Qa.vB HB)⟩
end Go.Proofs.YtkgngggppcmpfaaGreat.L
end
section
namespace Go.Proofs.YtkgngggppcmpfaaGreat.L
open Go.RowKit Go.Proofs.YtkgngggppcmpfaaGreatW.PrintWords Go.Proofs.YtkgngggppcmpfaaGreatW.PrintLast Go.Proofs.YtkgngggppcmpfaaGreatW.PrintMore
attribute [local go_sem] Qy Q0 Qbb Qbc Qp Qq Qz Q1
set_option linter.unusedVariables false
set_option linter.unusedSimpArgs false
def Qm.at:List (Int × Int)→Int→Int
 | [],_=>0
 |p::l,k=>if k=p.1 then p.2 else Qm.at l k
def Qm.sub (many:List (Int × Int)) (ds:List Int) (own:Int):Int:=ds.foldl (fun own k=>wrap64 (own - Qm.at many k)) own
def Qm.go (k:Nat) (l0:List Int):List Int→List (Int × Int)→List Int→Option (List Int × Bool)
 | [],_,out=>some (out,true)
 |g::gs,many,out=>if (Lit.int .i64 g).wf=true∧0≤Int.tmod g (l0.length:Int)∧Int.tmod g (l0.length:Int)<(l0.length:Int) then (Qbn.f k g).bind fun ds=>if ds.length≤9223372036854775806∧(ds.all fun d=>(Lit.int .i64 d).wf)=true∧(Lit.int .i64 (Qm.sub many ds (rd l0 (Int.tmod g (l0.length:Int))))).wf=true∧many.length<17592186044416 then (if Qm.sub many ds (rd l0 (Int.tmod g (l0.length:Int)))<0 then some ([],false) else if out.length<17592186044416 then Qm.go k l0 gs ((g,Qm.sub many ds (rd l0 (Int.tmod g (l0.length:Int))))::many) (out++ [Qm.sub many ds (rd l0 (Int.tmod g (l0.length:Int)))]) else none) else none else none
def Qm.f (k:Nat) (l0:List Int):Option (List Int × Bool):=(Qde.f l0).bind fun t=>if t=true then (if 0<l0.length then (Qbn.f k (l0.length:Int)).bind fun gs=>if gs.length≤9223372036854775806 then Qm.go k l0 gs [] [] else none else none) else some ([],false)
theorem Qm.go_mono (k:Nat) (l0:List Int): ∀ gs many out,LeO (Qm.go k l0 gs many out) (Qm.go (k+1) l0 gs many out)
 | [],_,_=>LeO.refl _
 |g::gs,many,out=>by
  rw [Qm.go,Qm.go];exact LeO.ite (LeO.bind (Qbn.mono _ _) fun ds=>LeO.ite (LeO.ite (LeO.refl _) (LeO.ite (Qm.go_mono k l0 gs _ _) (LeO.refl _))) (LeO.refl _)) (LeO.refl _)
theorem Qm.mono: ∀ a0 k,LeO (Qm.f k a0) (Qm.f (k+1) a0):=fun l0 k=>LeO.bind (LeO.refl _) fun t=>LeO.ite (LeO.ite (LeO.bind (Qbn.mono _ _) fun gs=>LeO.ite (Qm.go_mono k l0 _ _ _) (LeO.refl _)) (LeO.refl _)) (LeO.refl _)
theorem Qm.zeroE (w:World):(zeroValue 3).run Tryz.prog w= .ok (.int .i64 0) w:=by kernel_rfl
theorem Qm.law:Go.Maps.Keyed Tryz.prog 3:=Go.Maps.int_keyed Tryz.underlying3
theorem Qm.put_at {D:DataW Unit} {many:List (Int × Int)} {x v:Int} (hD:Go.Maps.IsMap D) (h: ∀ y,D.atKey (.int .i64 y) (.lit (.int .i64 0))= .lit (.int .i64 (Qm.at many y))) (y:Int):
 (D.put (.int .i64 x) (.lit (.int .i64 v))).atKey (.int .i64 y) (.lit (.int .i64 0))= .lit (.int .i64 (Qm.at ((x,v)::many) y)):=by
 unfold Qm.at
 by_cases e:y=x
 ·
  subst e;rw [Go.Maps.atKey_put_same hD (show WideAt.IsKeyLit (.int .i64 y) from trivial),if_pos rfl]
 ·
  rw [Go.Maps.atKey_put_other (fun he=>e (by injection he)),h y,if_neg e]
theorem Qm.look {H:Type} {P:Program} (w:World) {ops:Array Oper} {rest:List Oper} {o:Oper} {a:Act} {Q:Exit→Act→World→Prop}
 (hg:o.guard=none) (m x:Operand) (t:TypeId) (hop:o.op=Op.lookup t m x false)
 (k e:TypeId) (K:Go.Maps.Keyed P k) (ht:P.underlying t=some (.map k e)) (he:P.underlying e=some (.int .i64)) (hz:(zeroValue e).run P w= .ok (.int .i64 0) w) (b n:Nat) (D:DataW H)
 (hm:a.eval m= .map (some b)) (hown:w.ownsMap P k (plainElem P e) b n D) (key:Value) (kl:Lit) (hx:a.eval x=key) (hkey:keyOf P k key=some kl) (r:Int) (hr:D.atKey kl (.lit (.int .i64 0))= .lit (.int .i64 r))
 (hK:wpList P ops Q rest (a.put o.dst (.int .i64 r)) w):
 wpList P ops Q (o::rest) a w:=by
 refine wpList_lookup_own_int w hg m x t hop k e .i64 K ht he hz b n D hm hown key kl hx hkey (fun c hc _=> ?_);rw [hr] at hc;injection hc with hc
 injection hc with _ hc
 subst hc;exact hK
open Go.Proofs.YtkgngggppcmpfaaGreat.X in
set_option maxHeartbeats 1600000 in
set_option maxRecDepth 100000 in
theorem Qm.calls (k:Nat) (A0:Option Addr) (c0:Nat) (l0:List Int) (r1:List Int) (r2:Bool) (w:World) (hr0:Kd.C (Kd.int .i64) w A0 l0.length l0) (hc0:l0.length≤c0) (h:Qm.f k l0=some (r1,r2)):
 Calls Tryz.prog 141 #[.slice A0 l0.length c0] w fun e w'=> ∃ v0_:Value,e= .returned (.tuple #[v0_, .bool r2])∧Kd.R (Kd.int .i64) 3 w' w.heap.size (fun _=>True) v0_ r1∧Below w.heap.size w w':=by
 have HR:=Zk hr0;have HC:=Zk hc0;clear hr0 hc0;unfold Qm.f at h;obtain ⟨t,ht,h⟩:=Option.bind_eq_some_iff.mp h;have HT:=Zk ht;clear ht;cases t with
 |false=>
  have h':some (([] :List Int),false)=some (r1,r2):=h;injection h' with h'
  injection h' with h1 h2
  subst h1 h2;clear h;go_enter Tryz.func141,Tryz.ntmps141;go_wp2_with fail;refine (Qde.calls A0 c0 l0 false _ HR.out HC.out HT.out).mono ?_;rintro e w1 ⟨rfl,hb⟩;have B1:=Zk hb;clear hb;go_wp2
  go_ret2
  exact ⟨_,rfl,Kd.R_nil _ _ _ _ _,B1.out⟩
 |true=>
  rw [if_pos rfl] at h
  split at h
  ·
   rename_i hl0;obtain ⟨gs,hgs,h⟩:=Option.bind_eq_some_iff.mp h
   split at h
   ·
    rename_i hgl;have HGS:=Zk hgs;have HF:=Zk h;have HGL:=Zk hgl;clear h hgs hgl;have hmm:= @run_makeMap Tryz.prog;go_enter Tryz.func141,Tryz.ntmps141;go_wp2_with fail;refine (Qde.calls A0 c0 l0 true _ HR.out HC.out HT.out).mono ?_;rintro e w1 ⟨rfl,hb⟩;have B1:=Zk hb;clear hb;go_wp2_with (first|((with_reducible refine Qu (N:=18) rfl ?_);refine Kd.R_lit (Kd.int .i64) w.heap.size 3 ?hg (N:=18) ?hd (xs:=([] :List Int)) (inner:= []) (ok:=fun k_=>k_≠w1.heap.size) (okp:=fun k_=>k_≠w1.heap.size) ?hr ?hp (fun _ hk=>hk) (by simp) (Qj B1.out (.map #[] 0)) (Qj B1.out (.map #[] 0)).size (by simp) ?_;(case hd=>rfl);(case hg=>rfl);(case hr=>first|(go_simp;done)|(go_simp;rfl));(case hp=>exact (Reps.none _ _));intro v18 w2 ho hb hg hnew;have HO:=Zk ho;have B2:=Zk hb;have M2:=Zk (show w2.ownsMap (H:=Unit) Tryz.prog 3 (plainElem Tryz.prog 3) w1.heap.size 0 (.map []) from (World.ownsMap_made w1 _ _ _).kept hg (by simp));clear ho hb hg hnew));have GB:=Zk (show w.heap.size≤w1.heap.size from B1.out.size);generalize w1.heap.size=b at HO M2 GB ⊢;obtain ⟨m,hm⟩: ∃ m:Int,m=(l0.length:Int):=⟨_,rfl⟩
    have hm0:m≠0:=by omega
    have HGS2:=Zk (show Qbn.f k m=some gs by rw [hm];exact HGS.out);have HM:=Zk hm;rw [←hm];clear hm HGS hmm;refine (Qbn.calls k m gs _ HGS2.out).mono ?_;rintro e w3 ⟨v0,rfl,hR,hb⟩;obtain ⟨A1,c1,rfl,hl1,hC1⟩:=Kd.R_reads hR;have C1:=Zk (show Kd.R (Kd.int .i64) 3 w3 w.heap.size (fun k_=>k_≠b∧some k_≠(v18:Value).ownBlock) (.slice A1 gs.length c1) gs from Kd.R_lower (Kd.R_mono (Kd.R_bound hR) (fun k_ hk=>⟨by have:=M2.out.lt;have:=hk.2.1;omega,fun e=>by have:=Kd.R_lt HO.out k_ e.symm;have:=hk.2.1;omega⟩)) B2.out.size);have M3:=Zk (M2.out.kept (Qej hb none) (by simp));have O3:=Zk (Kd.R_below HO.out hb);have B3:=Zk (Qbp B2.out hb);clear hR hb hC1 hl1 M2 HO B2;go_wp2
    go_loopw [6,22] (fun v6 v22 wr=> ∃ (q:Nat) (many:List (Int × Int)) (out:List Int) (D:DataW Unit),v22= .int .i64 q∧q≤gs.length∧Z0 (Qm.go k l0 (gs.drop q) many out=some (r1,r2))∧Z0 (wr.ownsMap Tryz.prog 3 (plainElem Tryz.prog 3) b many.length D)∧Z0 (∀ y,D.atKey (.int .i64 y) (.lit (.int .i64 0))= .lit (.int .i64 (Qm.at many y)))∧Z0 (Kd.R (Kd.int .i64) 3 wr w.heap.size (fun k_=>k_≠b) v6 out)∧Z0 (Kd.R (Kd.int .i64) 3 wr w.heap.size (fun k_=>k_≠b∧some k_≠(v6:Value).ownBlock) (.slice A1 gs.length c1) gs)∧Z0 (Below w.heap.size w wr)) (fun _ v22 _=>gs.length - (intOf v22).toNat)
    case atStart=>exact ⟨0,[],[],_,rfl,Nat.zero_le _,⟨by rw [List.drop_zero];exact HF.out⟩,M3,⟨fun y=>rfl⟩,O3,C1,B3⟩
    case round=>
     obtain ⟨q,many,out,D,rfl,hq,HG,HMo,HD,HO,HCg,HB⟩:=hrel
     by_cases hlt:q<gs.length
     ·
      have hG:=HG.out;rw [List.drop_eq_getElem_cons hlt,Qm.go] at hG
      split at hG
      ·
       rename_i hc;obtain ⟨ds,hds,hG⟩:=Option.bind_eq_some_iff.mp hG
       split at hG
       ·
        rename_i hc2;obtain ⟨ad,e1,hx0⟩:=Kd.at_int (Kd.R_reads' HCg.out).2.2 (q:Int) (by omega) (by omega);rw [Int.toNat_natCast] at hx0;cases e1;have hx:wr.cell? (ad.add q)=some (.int .i64 gs[q]):=by rw [hx0,show rd gs (q:Int)=gs[q] by simp [rd,List.getD_eq_getElem?_getD,hlt]]
        obtain ⟨ad2,e2,hy0⟩:=Kd.at_int (Kd.C_below HR.out HB.out) (Int.tmod gs[q] (l0.length:Int)) hc.2.1 hc.2.2;cases e2;have E2:=Zk (show wrap64 ((q:Int)+1)=((q+1:Nat):Int) by have:=HGL.out;unfold wrap64;omega);obtain ⟨g,hge⟩: ∃ g,g=gs[q] :=⟨_,rfl⟩
        rw [←hge] at hx hG hc hc2 hds hy0;have p1:0≤Int.tmod g m:=by rw [HM.out];exact hc.2.1
        have p2:Int.tmod g m<(l0.length:Int):=by rw [HM.out];exact hc.2.2
        obtain ⟨ow,how⟩: ∃ ow,ow=rd l0 (Int.tmod g (l0.length:Int)):=⟨_,rfl⟩
        have hy:wr.cell? (ad2.add (Int.tmod g m).toNat)=some (.int .i64 ow):=by rw [HM.out,hy0,how]
        rw [←how] at hG hc2;have WFg:=Zk hc.1;have HC2:=Zk hc2;have HDS:=Zk hds;have HG2:=Zk hG;have p3:0≤((q:Nat):Int):=by omega
        have q3:((q:Nat):Int)<(gs.length:Int):=by omega
        clear hge hx0 hy0 how hc hc2 hds hG HG;go_wp2_with fail;refine (Qbn.calls k g ds _ HDS.out).mono ?_;rintro e w5 ⟨v0,rfl,hR,hb⟩;obtain ⟨A5,c5,rfl,hl5,hC5⟩:=Kd.R_reads hR;have C5:=Zk hC5;have M5:=Zk (HMo.out.kept (Qej hb none) (by simp));have O5:=Zk (Kd.R_below HO.out hb);have G5:=Zk (Kd.R_below HCg.out hb);have B5:=Zk (Qbp HB.out hb);clear hR hb hC5 hl5 HMo HO HCg HB hx hy;go_wp2
        go_loopw [9,35] (fun v9 v35 wi=> ∃ (j:Nat) (own:Int),v35= .int .i64 j∧v9= .int .i64 own∧j≤ds.length∧Z0 (Qm.sub many ds ow=Qm.sub many (ds.drop j) own)∧wi=w5) (fun _ v35 _=>ds.length - (intOf v35).toNat)
        case atStart=>exact ⟨0,ow,rfl,rfl,Nat.zero_le _,⟨by rw [List.drop_zero]⟩,rfl⟩
        case round=>
         obtain ⟨j,own,rfl,rfl,hj,HS,rfl⟩:=hrel
         by_cases hjl:j<ds.length
         ·
          have hs:=HS.out;rw [List.drop_eq_getElem_cons hjl] at hs;obtain ⟨ad,e1,hx0⟩:=Kd.at_int C5.out (j:Int) (by omega) (by omega);rw [Int.toNat_natCast] at hx0;cases e1;have hx:=hx0;rw [show rd ds (j:Int)=ds[j] by simp [rd,List.getD_eq_getElem?_getD,hjl]] at hx;have WFd:=Zk (show (Lit.int .i64 ds[j]).wf=true from List.all_eq_true.mp HC2.out.2.1 _ (List.getElem_mem hjl));obtain ⟨d,hde⟩: ∃ d,d=ds[j] :=⟨_,rfl⟩
          rw [←hde] at hx hs WFd;have HS2:=Zk (show Qm.sub many ds ow=Qm.sub many (ds.drop (j+1)) (wrap64 (own - Qm.at many d)) from hs);have p4:0≤((j:Nat):Int):=by omega
          have q4:((j:Nat):Int)<(ds.length:Int):=by omega
          have hj1:j+1≤ds.length:=hjl;have e3:wrap64 ((j:Int)+1)=((j+1:Nat):Int):=by have:=HC2.out.1;unfold wrap64;omega
          clear hde hx0 hs HS;go_wp2_with (first|(at_lookup;refine Qm.look _ rfl _ _ 142 rfl 3 3 Qm.law Tryz.underlying142 Tryz.underlying3 (Qm.zeroE _) b many.length D rfl M5.out _ (.int .i64 d) rfl (Go.Maps.keyOf_int_mk Tryz.underlying3 WFd.out) _ (HD.out d) ?_));go_roundw
          case rel=>exact ⟨j+1,wrap64 (own - Qm.at many d),by first|rw [e3] |rfl,rfl,hj1,HS2,by first|trivial|rfl⟩
          case measure=>first|(simp only [e3];exact (Nat.sub_lt_sub_left hjl (Nat.lt_succ_self j):ds.length - (j+1)<ds.length - j))|exact (Nat.sub_lt_sub_left hjl (Nat.lt_succ_self j):ds.length - (j+1)<ds.length - j)
         ·
          have hs:Qm.sub many ds ow=own:=by rw [HS.out,List.drop_of_length_le (by omega)];rfl
          have hG:=HG2.out;rw [hs] at hG;have WFo:=Zk (show (Lit.int .i64 own).wf=true by have:=HC2.out.2.2.1;rwa [hs] at this);clear hs HS HG2
          by_cases hneg:own<0
          ·
           rw [if_pos hneg] at hG;injection hG with hG
           injection hG with h1 h2
           subst h1 h2;go_wp2
           go_ret2
           exact ⟨_,rfl,Kd.R_nil _ _ _ _ _,B5.out⟩
          ·
           rw [if_neg hneg] at hG
           split at hG
           ·
            rename_i hol;have HOL:=Zk hol;have HG3:=Zk hG;have hneg2:decide (own<0)=false:=decide_eq_false hneg;have hq1:q+1≤gs.length:=hlt;have L53:=Zk (show (out.length+1)*8≤140737488355328 by have:=HOL.out;omega);have L6:=Zk (show many.length<maxLen by have:=HC2.out.2.2.2;unfold maxLen;omega);have e2:=E2.out;clear hG hol;go_wp2_with (first|(at_mapUpdate;refine wpList_mapUpdate_own _ rfl _ _ _ 142 rfl 3 3 Qm.law Tryz.underlying142 (plainElem Tryz.prog 3) b many.length D rfl M5.out L6.out _ _ (.int .i64 g) rfl rfl (Go.Maps.keyOf_int_mk Tryz.underlying3 WFg.out) (.lit (.int .i64 own)) [] (plainElem_int Tryz.underlying3 WFo.out) ?_;intro w6 hm6 hg6;have M6:=Zk hm6;have O6:=Zk (Kd.R_grown O5.out hg6 (fun k_ hk=>by intro e;injection e with e;exact hk e));have B6:=Zk (Qfm B5.out (some b) B5.out.size hg6 (fun k_ e=>by injection e with e;rw [←e];exact GB.out));have G6:=Zk (Kd.R_grown G5.out hg6 (fun k_ hk=>by intro e;injection e with e;exact hk.1 e));clear hm6 hg6)|((with_reducible refine Qb1 (b:= .append) (xs:= #[.tmp 50, .tmp 52]) rfl ?_);at_builtin;refine Kd.R_append (Kd.int .i64) (w0:=w) w.heap.size rfl (.tmp 50) (.tmp 52) 24 3 (.int .i64 0) 8 rfl Tryz.underlying24 Qdq rfl (by decide) (by omega) u6 out own [.int .i64 own] (fun k_=>k_≠b) (fun _=>False) rfl rfl ?aP (fun _ hk=>hk.elim) ?aF ?aO ?aB ?aS ?aL ?_;(case aP=>exact rfl);(case aF=>exact fun k_ hk=>Nat.ne_of_gt (Nat.lt_of_lt_of_le M6.out.lt hk));(case aO=>exact O6.out);(case aB=>exact B6.out);(case aS=>exact B6.out.size);(case aL=>exact L53.out);intro v53 w7 ho hb hg hat;have O7:=Zk ho;have B7:=Zk hb;have M7:=Zk (M6.out.kept hg (fun e=>O6.out.1 b e.symm rfl));have G7:=Zk (Kd.R_after (v:=u6) (v1:=v53) (ok:=fun k_=>k_≠b) G6.out hg hat);clear ho hb hg hat));go_roundw
            case rel=>exact ⟨q+1,(g,own)::many,out++ [own],_,by first|rw [e2] |rfl,hq1,⟨HG3.out⟩,M7,⟨Qm.put_at M5.out.isMap HD.out⟩,O7,G7,B7⟩
            case measure=>(try simp only [e2]);exact (Nat.sub_lt_sub_left hlt (Nat.lt_succ_self q):gs.length - (q+1)<gs.length - q)
           ·
            cases hG
       ·
        cases hG
      ·
       cases hG
     ·
      have hG:=HG.out;rw [List.drop_of_length_le (by omega),Qm.go] at hG;injection hG with hG
      injection hG with h1 h2
      subst h1 h2;go_wp2
      go_ret2
      exact ⟨_,rfl,Kd.R_mono HO.out (fun _ _=>trivial),HB.out⟩
   ·
    cases h
  ·
   cases h
end Go.Proofs.YtkgngggppcmpfaaGreat.L
end
section
namespace Go.Proofs.YtkgngggppcmpfaaGreat.L
open Go.RowKit Go.Proofs.YtkgngggppcmpfaaGreatW.PrintWords Go.Proofs.YtkgngggppcmpfaaGreatW.PrintLast Go.Proofs.YtkgngggppcmpfaaGreatW.PrintMore Go.Proofs.YtkgngggppcmpfaaGreat.X
attribute [local go_sem] Qy Q0 Qbb Qbc Qp Qq Qz Q1
set_option linter.unusedVariables false
set_option linter.unusedSimpArgs false
def Qdd.f (k:Nat) (l0:List Int):Option (Bool):=(Qbz.f (l0.length:Int) 1 60).bind fun t734=>(if t734=true then ((Qb3.f k l0 0 100000000).bind fun t735=>(some t735)) else (some false))
theorem Qdd.mono: ∀ a0 k,LeO (Qdd.f k a0) (Qdd.f (k+1) a0):=by
 intro a0 k;unfold Qdd.f
 repeat' (with_reducible first|apply Qb3.mono|exact LeO.refl _|exact LeO.none _|refine LeO.ite ?_ ?_|refine LeO.bind ?_ (fun _=> ?_))
set_option maxHeartbeats 8000000 in
set_option maxRecDepth 100000 in
theorem Qdd.calls (k:Nat) (A0:Option Addr) (c0:Nat) (l0:List Int) (r:Bool) (w:World) (hr0:Kd.C (Kd.int .i64) w A0 l0.length l0) (hc0:l0.length≤c0) (h:Qdd.f k l0=some r):
 Calls Tryz.prog 226 #[.slice A0 l0.length c0] w fun e w'=>e= .returned (.bool r)∧Drawn0 w w':=by
 have HR0:=Zk hr0;have HC0:=Zk hc0;clear hr0 hc0;have H:((Qbz.f (l0.length:Int) 1 60).bind fun t734=>(if t734=true then ((Qb3.f k l0 0 100000000).bind fun t735=>(some t735)) else (some false)))=some r:=h;clear h;obtain ⟨t734,A2,H⟩:=bs H;(try dsimp only at H)
 by_cases c3:t734=true
 ·
  subst c3;rw [if_pos rfl] at H;obtain ⟨t735,A4,H⟩:=bs H;(try dsimp only at H)
  obtain rfl:=Option.some.inj H;go_enter Tryz.func226,Tryz.ntmps226;go_wp2_with (first|(refine gA (some 5) Tryz.func192 #[.int .i64 (l0.length:Int), .int .i64 1, .int .i64 60] ?_;(with_reducible refine (Qbz.calls (l0.length:Int) 1 60 true _ A2.out).mono ?_);rintro e w' ⟨rfl,⟨nd,rfl⟩⟩;refine ⟨_,rfl,?_⟩)|(go_at_call 224;(with_reducible refine (Qb3.calls k _ _ l0 0 100000000 t735 _ (uC HR0) HC0.out A4.out).mono ?_);rintro e w' ⟨rfl,⟨nd,rfl⟩⟩))
  go_ret
  exact ⟨by first|rfl|(simp;done)|(simp [*];done),by repeat (first|exact Drawn0.refl _|apply Drawn0.step)⟩
 ·
  replace c3:=Bool.eq_false_iff.mpr c3;subst c3;rw [if_neg (show ¬ (false=true) by decide)] at H;obtain rfl:=Option.some.inj H;go_enter Tryz.func226,Tryz.ntmps226;go_wp2_with (first|(refine gA (some 5) Tryz.func192 #[.int .i64 (l0.length:Int), .int .i64 1, .int .i64 60] ?_;(with_reducible refine (Qbz.calls (l0.length:Int) 1 60 false _ A2.out).mono ?_);rintro e w' ⟨rfl,⟨nd,rfl⟩⟩;refine ⟨_,rfl,?_⟩))
  go_ret
  exact ⟨by first|rfl|(simp;done)|(simp [*];done),by repeat (first|exact Drawn0.refl _|apply Drawn0.step)⟩
end Go.Proofs.YtkgngggppcmpfaaGreat.L
end
