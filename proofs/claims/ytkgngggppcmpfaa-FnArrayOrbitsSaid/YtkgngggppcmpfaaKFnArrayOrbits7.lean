/- Laws about the given program: the law FnArrayOrbits answers true for every input that its row lets in; no condition is added to the given statement. Contracts of the Go functions that it reaches, and the plain proof over lists. -/
import Derived.Test.YtkgngggppcmpfaaWFnArrayOrbits0
import Derived.Test.YtkgngggppcmpfaaKFnArrayOrbits0
import Derived.Test.YtkgngggppcmpfaaKFnArrayOrbits1
import Derived.Test.YtkgngggppcmpfaaKFnArrayOrbits2
import Derived.Test.YtkgngggppcmpfaaKFnArrayOrbits3
import Derived.Test.YtkgngggppcmpfaaKFnArrayOrbits4
import Derived.Test.YtkgngggppcmpfaaKFnArrayOrbits5
import Derived.Test.YtkgngggppcmpfaaKFnArrayOrbits6
section
namespace Go.Proofs.Ytkgngggppcmpfaa.L
open Go.RowKit Go.Proofs.YtkgngggppcmpfaaW.PrintWords Go.Proofs.YtkgngggppcmpfaaW.PrintLast Go.Proofs.YtkgngggppcmpfaaW.PrintMore
attribute [local go_sem] Qbj Qbi Qbu Qbt Qbd Qbc Qbk Qbl
set_option linter.unusedVariables false
set_option linter.unusedSimpArgs false
def Q8.l0 : Nat → List Int → List Int → Int → Int → Option (Bool)
 |0,_,_,_,_=>none
 |k+1,x0,x1,x12,x13=>if x13<x12 then (if 0≤x13 then (if x13<(x0.length:Int) then (if x13<(x1.length:Int) then (if (rd x0 x13)=(rd x1 x13) then (Q8.l0 k x0 x1 x12 (wrap64 (x13+1))) else (some false)) else (none)) else (none)) else (none)) else (some true)
def Q8.f (k : Nat) (l0 : List Int) (l1 : List Int) : Option (Bool) := if (l0.length : Int) = (l1.length : Int) then (Q8.l0 k l0 l1 (l0.length : Int) 0) else (some false)
theorem Q8.mono_l : ∀ k, (∀ y0 y1 y2 y3, LeO (Q8.l0 k y0 y1 y2 y3) (Q8.l0 (k + 1) y0 y1 y2 y3))
 |0=>fun _ _ _ _ r h=>by simp [Q8.l0] at h
 |k+1=>by
  have ih0:=Q8.mono_l k
  ·
   intro y0 y1 y2 y3;unfold Q8.l0
   repeat' first
   |(with_reducible exact ih0 _ _ _ _)
   |(with_reducible exact LeO.refl _)
   |(with_reducible exact LeO.none _)
   |(with_reducible refine LeO.ite ?_ ?_)
   |(with_reducible refine LeO.bind ?_ (fun _=> ?_))
   |exact ih0 _ _ _ _
   |exact LeO.none _
   |refine LeO.ite ?_ ?_
   |refine LeO.bind ?_ (fun _=> ?_)
theorem Q8.mono : ∀ a0 a1 k, LeO (Q8.f k a0 a1) (Q8.f (k + 1) a0 a1) := by
 intro a0 a1 k;have ih0:=Q8.mono_l k;unfold Q8.f
 repeat' first
  |(with_reducible exact ih0 _ _ _ _)
  |(with_reducible exact LeO.refl _)
  |(with_reducible exact LeO.none _)
  |(with_reducible refine LeO.ite ?_ ?_)
  |(with_reducible refine LeO.bind ?_ (fun _=> ?_))
  |exact ih0 _ _ _ _
  |exact LeO.none _
  |refine LeO.ite ?_ ?_
  |refine LeO.bind ?_ (fun _=> ?_)
set_option maxHeartbeats 8000000 in
set_option maxRecDepth 100000 in
theorem Q8.calls (k : Nat) (A0 : Option Addr) (c0 : Nat) (l0 : List Int) (A1 : Option Addr) (c1 : Nat) (l1 : List Int) (r : Bool) (w : World) (hr0 : Kd.C (Kd.int .i64) w A0 l0.length l0) (hc0 : l0.length ≤ c0) (hr1 : Kd.C (Kd.int .i64) w A1 l1.length l1) (hc1 : l1.length ≤ c1) (h : Q8.f k l0 l1 = some r) :
 Calls Try.prog 12 #[.slice A0 l0.length c0, .slice A1 l1.length c1] w fun e w'=>e= .returned (.bool r)∧Drawn0 w w':=by
 have HR0:=Aside0.mk hr0;have HC0:=Aside0.mk hc0;clear hr0 hc0;have HR1:=Aside0.mk hr1;have HC1:=Aside0.mk hc1;clear hr1 hc1;have H:(if (l0.length:Int)=(l1.length:Int) then (Q8.l0 k l0 l1 (l0.length:Int) 0) else (some false))=some r:=h;clear h
 by_cases c3:(l0.length:Int)=(l1.length:Int)
 ·
  rw [if_pos c3] at H;have c3b0:((l0.length:Int)==(l1.length:Int))=true:=beq_iff_eq.mpr c3;have c3b1:((l0.length:Int) !=(l1.length:Int))=false:=bne_eq_false_iff_eq.mpr c3;have c3b2:(l0.length==l1.length)=true:=by first|simpa using c3|(simp at c3 ⊢;omega)
  clear c3;have H':=Aside0.mk H;clear H;go_enter Try.func12,Try.ntmps12;go_wp2
  repeat (go_quiet (fail);try go_wp2)
  go_loopg [13] k (fun kq v13 w'=> ∃ (x13_1:Int),v13= .int .i64 x13_1∧Aside0 (Q8.l0 kq l0 l1 (l0.length:Int) x13_1=some r)∧Aside0 (kq≤k)∧Drawn0 w w')
  case atStart=>exact ⟨(0),(by first|rfl|(simp;done)|(simp [*];done)),H',⟨Nat.le_refl _⟩,by repeat (first|exact Drawn0.refl _|apply Drawn0.step)⟩
  case round=>
   clear H'
   try clear c1
   try clear p2
   try clear c3
   try clear c3b0
   try clear c3b1
   try clear c3b2
   obtain ⟨x13_1,rfl,HA,HK1,⟨m1,rfl⟩⟩:=hrel;cases gk with
   |zero=>exact absurd HA.out (by simp [Q8.l0])
   |succ k1=>
    have H:=HA.out;clear HA;simp only [Q8.l0] at H
    by_cases c4:x13_1<(l0.length:Int)
    ·
     rw [if_pos c4] at H;have c4b0:decide (x13_1<(l0.length:Int))=true:=decide_eq_true c4;clear c4
     by_cases c5:0≤x13_1
     ·
      rw [if_pos c5] at H;have c5b0:decide (0≤x13_1)=true:=decide_eq_true c5;clear c5
      by_cases c6:x13_1<(l0.length:Int)
      ·
       rw [if_pos c6] at H;have c6b0:decide (x13_1<(l0.length:Int))=true:=decide_eq_true c6;clear c6
       by_cases c7:x13_1<(l1.length:Int)
       ·
        rw [if_pos c7] at H;have c7b0:decide (x13_1<(l1.length:Int))=true:=decide_eq_true c7;clear c7
        by_cases c8:(rd l0 x13_1)=(rd l1 x13_1)
        ·
         rw [if_pos c8] at H;have c8b0:((rd l0 x13_1)==(rd l1 x13_1))=true:=beq_iff_eq.mpr c8;have c8b1:((rd l0 x13_1) !=(rd l1 x13_1))=false:=bne_eq_false_iff_eq.mpr c8;clear c8;have H':=Aside0.mk H;clear H;have p482:0≤(x13_1:Int):=of_decide_eq_true (by first|(with_reducible assumption)|assumption);have q482:x13_1<(l0.length:Int):=of_decide_eq_true (by first|(with_reducible assumption)|assumption);obtain ⟨ad482,e482,hx482_0⟩:=Kd.at_int HR0.out x13_1 p482 q482;cases e482;replace p482:=eq_true p482;replace q482:=eq_true q482;have p483:0≤(x13_1:Int):=of_decide_eq_true (by first|(with_reducible assumption)|assumption);have q483:x13_1<(l1.length:Int):=of_decide_eq_true (by first|(with_reducible assumption)|assumption);obtain ⟨ad483,e483,hx483_0⟩:=Kd.at_int HR1.out x13_1 p483 q483;cases e483;replace p483:=eq_true p483;replace q483:=eq_true q483;go_wp2
         repeat (go_quiet (fail);try go_wp2)
         go_roundg k1
         case measure=>have:=HK1.out;omega
         case rel=>exact ⟨(wrap64 (x13_1+1)),(by first|rfl|(simp;done)|(simp [*];done)),H',⟨by have:=HK1.out;omega⟩,by repeat (first|exact Drawn0.refl _|apply Drawn0.step)⟩
        ·
         rw [if_neg c8] at H;have c8b0:((rd l0 x13_1)==(rd l1 x13_1))=false:=beq_eq_false_iff_ne.mpr c8;have c8b1:((rd l0 x13_1) !=(rd l1 x13_1))=true:=bne_iff_ne.mpr c8;obtain rfl:=Option.some.inj H;have p482:0≤(x13_1:Int):=of_decide_eq_true (by first|(with_reducible assumption)|assumption);have q482:x13_1<(l0.length:Int):=of_decide_eq_true (by first|(with_reducible assumption)|assumption);obtain ⟨ad482,e482,hx482_0⟩:=Kd.at_int HR0.out x13_1 p482 q482;cases e482;replace p482:=eq_true p482;replace q482:=eq_true q482;have p483:0≤(x13_1:Int):=of_decide_eq_true (by first|(with_reducible assumption)|assumption);have q483:x13_1<(l1.length:Int):=of_decide_eq_true (by first|(with_reducible assumption)|assumption);obtain ⟨ad483,e483,hx483_0⟩:=Kd.at_int HR1.out x13_1 p483 q483;cases e483;replace p483:=eq_true p483;replace q483:=eq_true q483;go_wp2
         repeat (go_quiet (fail);try go_wp2)
         go_ret
         exact ⟨by first|rfl|(simp;done)|(simp [*];done),by repeat (first|exact Drawn0.refl _|apply Drawn0.step)⟩
       ·
        rw [if_neg c7] at H;exact absurd H (by simp)
      ·
       rw [if_neg c6] at H;exact absurd H (by simp)
     ·
      rw [if_neg c5] at H;exact absurd H (by simp)
    ·
     rw [if_neg c4] at H;have c4b0:decide (x13_1<(l0.length:Int))=false:=decide_eq_false c4;clear c4;obtain rfl:=Option.some.inj H;go_wp2
     repeat (go_quiet (fail);try go_wp2)
     go_ret
     exact ⟨by first|rfl|(simp;done)|(simp [*];done),by repeat (first|exact Drawn0.refl _|apply Drawn0.step)⟩
 ·
  rw [if_neg c3] at H;have c3b0:((l0.length:Int)==(l1.length:Int))=false:=beq_eq_false_iff_ne.mpr c3;have c3b1:((l0.length:Int) !=(l1.length:Int))=true:=bne_iff_ne.mpr c3;have c3b2:(l0.length==l1.length)=false:=by first|simpa using c3|(simp at c3 ⊢;omega)
  obtain rfl:=Option.some.inj H;go_enter Try.func12,Try.ntmps12;go_wp2
  repeat (go_quiet (fail);try go_wp2)
  go_ret
  exact ⟨by first|rfl|(simp;done)|(simp [*];done),by repeat (first|exact Drawn0.refl _|apply Drawn0.step)⟩
def Qb7.l0 : Nat → List (List Int) → List (List Int) → Int → Int → Option (Bool)
 |0,_,_,_,_=>none
 |k+1,x0,x1,x12,x13=>if x13<x12 then (if 0≤x13 then (if x13<(x0.length:Int) then (if x13<(x1.length:Int) then ((Q8.f k (Qb3 x0 x13) (Qb3 x1 x13)).bind fun t486=>(if t486=true then (Qb7.l0 k x0 x1 x12 (wrap64 (x13+1))) else (some false))) else (none)) else (none)) else (none)) else (some true)
def Qb7.f (k : Nat) (l0 : List (List Int)) (l1 : List (List Int)) : Option (Bool) := if (l0.length : Int) = (l1.length : Int) then (Qb7.l0 k l0 l1 (l0.length : Int) 0) else (some false)
theorem Qb7.mono_l : ∀ k, (∀ y0 y1 y2 y3, LeO (Qb7.l0 k y0 y1 y2 y3) (Qb7.l0 (k + 1) y0 y1 y2 y3))
 |0=>fun _ _ _ _ r h=>by simp [Qb7.l0] at h
 |k+1=>by
  have ih0:=Qb7.mono_l k
  ·
   intro y0 y1 y2 y3;unfold Qb7.l0
   repeat' first
   |(with_reducible exact ih0 _ _ _ _)
   |(with_reducible exact Q8.mono _ _ _)
   |(with_reducible exact LeO.refl _)
   |(with_reducible exact LeO.none _)
   |(with_reducible refine LeO.ite ?_ ?_)
   |(with_reducible refine LeO.bind ?_ (fun _=> ?_))
   |exact ih0 _ _ _ _
   |exact Q8.mono _ _ _
   |exact LeO.none _
   |refine LeO.ite ?_ ?_
   |refine LeO.bind ?_ (fun _=> ?_)
theorem Qb7.mono : ∀ a0 a1 k, LeO (Qb7.f k a0 a1) (Qb7.f (k + 1) a0 a1) := by
 intro a0 a1 k;have ih0:=Qb7.mono_l k;unfold Qb7.f
 repeat' first
  |(with_reducible exact ih0 _ _ _ _)
  |(with_reducible exact Q8.mono _ _ _)
  |(with_reducible exact LeO.refl _)
  |(with_reducible exact LeO.none _)
  |(with_reducible refine LeO.ite ?_ ?_)
  |(with_reducible refine LeO.bind ?_ (fun _=> ?_))
  |exact ih0 _ _ _ _
  |exact Q8.mono _ _ _
  |exact LeO.none _
  |refine LeO.ite ?_ ?_
  |refine LeO.bind ?_ (fun _=> ?_)
set_option maxHeartbeats 8000000 in
set_option maxRecDepth 100000 in
theorem Qb7.calls (k : Nat) (A0 : Option Addr) (c0 : Nat) (l0 : List (List Int)) (A1 : Option Addr) (c1 : Nat) (l1 : List (List Int)) (r : Bool) (w : World) (hr0 : Kd.C (Kd.slice 3 (Kd.int .i64)) w A0 l0.length l0) (hc0 : l0.length ≤ c0) (hr1 : Kd.C (Kd.slice 3 (Kd.int .i64)) w A1 l1.length l1) (hc1 : l1.length ≤ c1) (h : Qb7.f k l0 l1 = some r) :
 Calls Try.prog 10 #[.slice A0 l0.length c0, .slice A1 l1.length c1] w fun e w'=>e= .returned (.bool r)∧Drawn0 w w':=by
 have HR0:=Aside0.mk hr0;have HC0:=Aside0.mk hc0;clear hr0 hc0;have HR1:=Aside0.mk hr1;have HC1:=Aside0.mk hc1;clear hr1 hc1;have H:(if (l0.length:Int)=(l1.length:Int) then (Qb7.l0 k l0 l1 (l0.length:Int) 0) else (some false))=some r:=h;clear h
 by_cases c3:(l0.length:Int)=(l1.length:Int)
 ·
  rw [if_pos c3] at H;have c3b0:((l0.length:Int)==(l1.length:Int))=true:=beq_iff_eq.mpr c3;have c3b1:((l0.length:Int) !=(l1.length:Int))=false:=bne_eq_false_iff_eq.mpr c3;have c3b2:(l0.length==l1.length)=true:=by first|simpa using c3|(simp at c3 ⊢;omega)
  clear c3;have H':=Aside0.mk H;clear H;go_enter Try.func10,Try.ntmps10;go_wp2
  repeat (go_quiet (fail);try go_wp2)
  go_loopg [13] k (fun kq v13 w'=> ∃ (x13_1:Int),v13= .int .i64 x13_1∧Aside0 (Qb7.l0 kq l0 l1 (l0.length:Int) x13_1=some r)∧Aside0 (kq≤k)∧Drawn0 w w')
  case atStart=>exact ⟨(0),(by first|rfl|(simp;done)|(simp [*];done)),H',⟨Nat.le_refl _⟩,by repeat (first|exact Drawn0.refl _|apply Drawn0.step)⟩
  case round=>
   clear H'
   try clear c1
   try clear p2
   try clear c3
   try clear c3b0
   try clear c3b1
   try clear c3b2
   obtain ⟨x13_1,rfl,HA,HK1,⟨m1,rfl⟩⟩:=hrel;cases gk with
   |zero=>exact absurd HA.out (by simp [Qb7.l0])
   |succ k1=>
    have H:=HA.out;clear HA;simp only [Qb7.l0] at H
    by_cases c4:x13_1<(l0.length:Int)
    ·
     rw [if_pos c4] at H;have c4b0:decide (x13_1<(l0.length:Int))=true:=decide_eq_true c4;clear c4
     by_cases c5:0≤x13_1
     ·
      rw [if_pos c5] at H;have c5b0:decide (0≤x13_1)=true:=decide_eq_true c5;clear c5
      by_cases c6:x13_1<(l0.length:Int)
      ·
       rw [if_pos c6] at H;have c6b0:decide (x13_1<(l0.length:Int))=true:=decide_eq_true c6;clear c6
       by_cases c7:x13_1<(l1.length:Int)
       ·
        rw [if_pos c7] at H;have c7b0:decide (x13_1<(l1.length:Int))=true:=decide_eq_true c7;clear c7;replace H:=Option.bind_eq_some_iff.mp H;obtain ⟨t486,A80,H⟩:=H;replace H:(if t486=true then (Qb7.l0 k1 l0 l1 (l0.length:Int) (wrap64 (x13_1+1))) else (some false))=some r:=H;have A8:=Aside0.mk A80;clear A80
        by_cases c9:t486=true
        ·
         subst c9;have H1:(Qb7.l0 k1 l0 l1 (l0.length:Int) (wrap64 (x13_1+1)))=some r:=by rw [if_pos rfl] at H;exact H
         clear H;have H:=H1;clear H1;have H':=Aside0.mk H;clear H;have p484:0≤(x13_1:Int):=of_decide_eq_true (by first|(with_reducible assumption)|assumption);have q484:x13_1<(l0.length:Int):=of_decide_eq_true (by first|(with_reducible assumption)|assumption);obtain ⟨ad484,A484_0,c484_0,e484,hx484_0,hl484_0,hi484_0⟩:=Qev HR0.out x13_1 p484 q484;cases e484;have HR484_0:=Aside0.mk hi484_0;have HC484_0:=Aside0.mk hl484_0;clear hi484_0 hl484_0;replace p484:=eq_true p484;replace q484:=eq_true q484;have p485:0≤(x13_1:Int):=of_decide_eq_true (by first|(with_reducible assumption)|assumption);have q485:x13_1<(l1.length:Int):=of_decide_eq_true (by first|(with_reducible assumption)|assumption);obtain ⟨ad485,A485_0,c485_0,e485,hx485_0,hl485_0,hi485_0⟩:=Qev HR1.out x13_1 p485 q485;cases e485;have HR485_0:=Aside0.mk hi485_0;have HC485_0:=Aside0.mk hl485_0;clear hi485_0 hl485_0;replace p485:=eq_true p485;replace q485:=eq_true q485;go_wp2_with (first|(go_at_call 12;(with_reducible refine (Q8.calls k1 _ _ (Qb3 l0 x13_1) _ _ (Qb3 l1 x13_1) true _ ?side1 ?side2 ?side3 ?side4 A8.out).mono ?_);(case side1=>repeat (first|exact HR484_0.out|(with_reducible refine Kd.C_alloc ?_ _)|(with_reducible refine Kd.C_drewN ?_ _)|(with_reducible refine Kd.C_drew ?_)));(case side2=>exact HC484_0.out);(case side3=>repeat (first|exact HR485_0.out|(with_reducible refine Kd.C_alloc ?_ _)|(with_reducible refine Kd.C_drewN ?_ _)|(with_reducible refine Kd.C_drew ?_)));(case side4=>exact HC485_0.out);rintro e w' ⟨rfl,⟨nd,rfl⟩⟩;(try first|exact ⟨rfl,_,World.drewN_drewN _ _ _⟩|exact ⟨rfl,_,Eq.trans (World.drewN_drewN _ _ _) (congrArg (World.drewN _) (Nat.add_assoc _ _ _))⟩)))
         repeat (go_quiet (first|(go_at_call 12;(with_reducible refine (Q8.calls k1 _ _ (Qb3 l0 x13_1) _ _ (Qb3 l1 x13_1) true _ ?side1 ?side2 ?side3 ?side4 A8.out).mono ?_);(case side1=>repeat (first|exact HR484_0.out|(with_reducible refine Kd.C_alloc ?_ _)|(with_reducible refine Kd.C_drewN ?_ _)|(with_reducible refine Kd.C_drew ?_)));(case side2=>exact HC484_0.out);(case side3=>repeat (first|exact HR485_0.out|(with_reducible refine Kd.C_alloc ?_ _)|(with_reducible refine Kd.C_drewN ?_ _)|(with_reducible refine Kd.C_drew ?_)));(case side4=>exact HC485_0.out);rintro e w' ⟨rfl,⟨nd,rfl⟩⟩;(try first|exact ⟨rfl,_,World.drewN_drewN _ _ _⟩|exact ⟨rfl,_,Eq.trans (World.drewN_drewN _ _ _) (congrArg (World.drewN _) (Nat.add_assoc _ _ _))⟩)));try go_wp2_with (first|(go_at_call 12;(with_reducible refine (Q8.calls k1 _ _ (Qb3 l0 x13_1) _ _ (Qb3 l1 x13_1) true _ ?side1 ?side2 ?side3 ?side4 A8.out).mono ?_);(case side1=>repeat (first|exact HR484_0.out|(with_reducible refine Kd.C_alloc ?_ _)|(with_reducible refine Kd.C_drewN ?_ _)|(with_reducible refine Kd.C_drew ?_)));(case side2=>exact HC484_0.out);(case side3=>repeat (first|exact HR485_0.out|(with_reducible refine Kd.C_alloc ?_ _)|(with_reducible refine Kd.C_drewN ?_ _)|(with_reducible refine Kd.C_drew ?_)));(case side4=>exact HC485_0.out);rintro e w' ⟨rfl,⟨nd,rfl⟩⟩;(try first|exact ⟨rfl,_,World.drewN_drewN _ _ _⟩|exact ⟨rfl,_,Eq.trans (World.drewN_drewN _ _ _) (congrArg (World.drewN _) (Nat.add_assoc _ _ _))⟩))))
         go_roundg k1
         case measure=>have:=HK1.out;omega
         case rel=>exact ⟨(wrap64 (x13_1+1)),(by first|rfl|(simp;done)|(simp [*];done)),H',⟨by have:=HK1.out;omega⟩,by repeat (first|exact Drawn0.refl _|apply Drawn0.step)⟩
        ·
         replace c9:=Bool.eq_false_iff.mpr c9;subst c9;have H1:(some false)=some r:=by rw [if_neg (show ¬ (false=true) by decide)] at H;exact H
         clear H;have H:=H1;clear H1;obtain rfl:=Option.some.inj H;have p484:0≤(x13_1:Int):=of_decide_eq_true (by first|(with_reducible assumption)|assumption);have q484:x13_1<(l0.length:Int):=of_decide_eq_true (by first|(with_reducible assumption)|assumption);obtain ⟨ad484,A484_0,c484_0,e484,hx484_0,hl484_0,hi484_0⟩:=Qev HR0.out x13_1 p484 q484;cases e484;have HR484_0:=Aside0.mk hi484_0;have HC484_0:=Aside0.mk hl484_0;clear hi484_0 hl484_0;replace p484:=eq_true p484;replace q484:=eq_true q484;have p485:0≤(x13_1:Int):=of_decide_eq_true (by first|(with_reducible assumption)|assumption);have q485:x13_1<(l1.length:Int):=of_decide_eq_true (by first|(with_reducible assumption)|assumption);obtain ⟨ad485,A485_0,c485_0,e485,hx485_0,hl485_0,hi485_0⟩:=Qev HR1.out x13_1 p485 q485;cases e485;have HR485_0:=Aside0.mk hi485_0;have HC485_0:=Aside0.mk hl485_0;clear hi485_0 hl485_0;replace p485:=eq_true p485;replace q485:=eq_true q485;go_wp2_with (first|(go_at_call 12;(with_reducible refine (Q8.calls k1 _ _ (Qb3 l0 x13_1) _ _ (Qb3 l1 x13_1) false _ ?side1 ?side2 ?side3 ?side4 A8.out).mono ?_);(case side1=>repeat (first|exact HR484_0.out|(with_reducible refine Kd.C_alloc ?_ _)|(with_reducible refine Kd.C_drewN ?_ _)|(with_reducible refine Kd.C_drew ?_)));(case side2=>exact HC484_0.out);(case side3=>repeat (first|exact HR485_0.out|(with_reducible refine Kd.C_alloc ?_ _)|(with_reducible refine Kd.C_drewN ?_ _)|(with_reducible refine Kd.C_drew ?_)));(case side4=>exact HC485_0.out);rintro e w' ⟨rfl,⟨nd,rfl⟩⟩;(try first|exact ⟨rfl,_,World.drewN_drewN _ _ _⟩|exact ⟨rfl,_,Eq.trans (World.drewN_drewN _ _ _) (congrArg (World.drewN _) (Nat.add_assoc _ _ _))⟩)))
         repeat (go_quiet (first|(go_at_call 12;(with_reducible refine (Q8.calls k1 _ _ (Qb3 l0 x13_1) _ _ (Qb3 l1 x13_1) false _ ?side1 ?side2 ?side3 ?side4 A8.out).mono ?_);(case side1=>repeat (first|exact HR484_0.out|(with_reducible refine Kd.C_alloc ?_ _)|(with_reducible refine Kd.C_drewN ?_ _)|(with_reducible refine Kd.C_drew ?_)));(case side2=>exact HC484_0.out);(case side3=>repeat (first|exact HR485_0.out|(with_reducible refine Kd.C_alloc ?_ _)|(with_reducible refine Kd.C_drewN ?_ _)|(with_reducible refine Kd.C_drew ?_)));(case side4=>exact HC485_0.out);rintro e w' ⟨rfl,⟨nd,rfl⟩⟩;(try first|exact ⟨rfl,_,World.drewN_drewN _ _ _⟩|exact ⟨rfl,_,Eq.trans (World.drewN_drewN _ _ _) (congrArg (World.drewN _) (Nat.add_assoc _ _ _))⟩)));try go_wp2_with (first|(go_at_call 12;(with_reducible refine (Q8.calls k1 _ _ (Qb3 l0 x13_1) _ _ (Qb3 l1 x13_1) false _ ?side1 ?side2 ?side3 ?side4 A8.out).mono ?_);(case side1=>repeat (first|exact HR484_0.out|(with_reducible refine Kd.C_alloc ?_ _)|(with_reducible refine Kd.C_drewN ?_ _)|(with_reducible refine Kd.C_drew ?_)));(case side2=>exact HC484_0.out);(case side3=>repeat (first|exact HR485_0.out|(with_reducible refine Kd.C_alloc ?_ _)|(with_reducible refine Kd.C_drewN ?_ _)|(with_reducible refine Kd.C_drew ?_)));(case side4=>exact HC485_0.out);rintro e w' ⟨rfl,⟨nd,rfl⟩⟩;(try first|exact ⟨rfl,_,World.drewN_drewN _ _ _⟩|exact ⟨rfl,_,Eq.trans (World.drewN_drewN _ _ _) (congrArg (World.drewN _) (Nat.add_assoc _ _ _))⟩))))
         go_ret
         exact ⟨by first|rfl|(simp;done)|(simp [*];done),by repeat (first|exact Drawn0.refl _|apply Drawn0.step)⟩
       ·
        rw [if_neg c7] at H;exact absurd H (by simp)
      ·
       rw [if_neg c6] at H;exact absurd H (by simp)
     ·
      rw [if_neg c5] at H;exact absurd H (by simp)
    ·
     rw [if_neg c4] at H;have c4b0:decide (x13_1<(l0.length:Int))=false:=decide_eq_false c4;clear c4;obtain rfl:=Option.some.inj H;go_wp2
     repeat (go_quiet (fail);try go_wp2)
     go_ret
     exact ⟨by first|rfl|(simp;done)|(simp [*];done),by repeat (first|exact Drawn0.refl _|apply Drawn0.step)⟩
 ·
  rw [if_neg c3] at H;have c3b0:((l0.length:Int)==(l1.length:Int))=false:=beq_eq_false_iff_ne.mpr c3;have c3b1:((l0.length:Int) !=(l1.length:Int))=true:=bne_iff_ne.mpr c3;have c3b2:(l0.length==l1.length)=false:=by first|simpa using c3|(simp at c3 ⊢;omega)
  obtain rfl:=Option.some.inj H;go_enter Try.func10,Try.ntmps10;go_wp2
  repeat (go_quiet (fail);try go_wp2)
  go_ret
  exact ⟨by first|rfl|(simp;done)|(simp [*];done),by repeat (first|exact Drawn0.refl _|apply Drawn0.step)⟩
mutual
def Qv.j0 : Nat → List Int → Int → Int → Bool → List Int → Option (List Int × Bool)
 |0,_,_,_,_,_=>none
 |k+1,x1,x2,x3,x21,x488000=>if x21=true then (some (([] :List Int),false)) else ((Qb5.f x1).bind fun t490=>((Qch.f x488000).bind fun t493=>((Qbn.f k t493).bind fun t494=>(if x3>0 then ((Qy.f k t494).bind fun t497=>(Qv.j1 k x2 x3 t490 t497 x488000)) else (Qv.j1 k x2 x3 t490 t494 x488000)))))
def Qv.j1 : Nat → Int → Int → List Int → List Int → List Int → Option (List Int × Bool)
 |0,_,_,_,_,_=>none
 |k+1,x2,x3,x10,x11,x488000=>Qv.l0 k x2 x10 x11 (mx x3 (wrap64 (-x3))) 0 x488000
def Qv.l0 : Nat → Int → List Int → List Int → Int → Int → List Int → Option (List Int × Bool)
 |0,_,_,_,_,_,_=>none
 |k+1,x2,x10,x11,x34,x35,x488000=>if x35<x34 then ((Qbh.f k x488000 x10 x2 x11).bind fun t498=>(Qv.l0 k x2 t498 x11 x34 (wrap64 (x35+1)) x488000)) else (some (x10,true))
end
def Qv.f (k : Nat) (l0_0 : List Int) (l1 : List Int) (a2 : Int) (a3 : Int) : Option (List Int × Bool) := (Qb9.f k l0_0 l1 a2).bind fun t488 => (if t488 = true then ((Qcp.f a3 (-1000) 1000).bind fun t489 => (Qv.j0 k l1 a2 a3 (!t489) l0_0)) else (Qv.j0 k l1 a2 a3 true l0_0))
theorem Qv.mono_l : ∀ k, (∀ y0 y1 y2 y3 y4, LeO (Qv.j0 k y0 y1 y2 y3 y4) (Qv.j0 (k + 1) y0 y1 y2 y3 y4)) ∧ (∀ y0 y1 y2 y3 y4, LeO (Qv.j1 k y0 y1 y2 y3 y4) (Qv.j1 (k + 1) y0 y1 y2 y3 y4)) ∧ (∀ y0 y1 y2 y3 y4 y5, LeO (Qv.l0 k y0 y1 y2 y3 y4 y5) (Qv.l0 (k + 1) y0 y1 y2 y3 y4 y5))
 |0=>⟨fun _ _ _ _ _ r h=>by simp [Qv.j0] at h,fun _ _ _ _ _ r h=>by simp [Qv.j1] at h,fun _ _ _ _ _ _ r h=>by simp [Qv.l0] at h⟩
 |k+1=>by
  obtain ⟨ih0,ih1,ih2⟩:=Qv.mono_l k;refine ⟨?_,?_,?_⟩
  ·
   intro y0 y1 y2 y3 y4;unfold Qv.j0
   repeat' first
   |(with_reducible exact ih0 _ _ _ _ _)
   |(with_reducible exact ih1 _ _ _ _ _)
   |(with_reducible exact ih2 _ _ _ _ _ _)
   |(with_reducible exact Qbh.mono _ _ _ _ _)
   |(with_reducible exact Qb9.mono _ _ _ _)
   |(with_reducible exact Qbn.mono _ _)
   |(with_reducible exact Qy.mono _ _)
   |(with_reducible exact LeO.refl _)
   |(with_reducible exact LeO.none _)
   |(with_reducible refine LeO.ite ?_ ?_)
   |(with_reducible refine LeO.bind ?_ (fun _=> ?_))
   |exact ih0 _ _ _ _ _
   |exact ih1 _ _ _ _ _
   |exact ih2 _ _ _ _ _ _
   |exact Qbh.mono _ _ _ _ _
   |exact Qb9.mono _ _ _ _
   |exact Qbn.mono _ _
   |exact Qy.mono _ _
   |exact LeO.none _
   |refine LeO.ite ?_ ?_
   |refine LeO.bind ?_ (fun _=> ?_)
  ·
   intro y0 y1 y2 y3 y4;unfold Qv.j1
   repeat' first
   |(with_reducible exact ih0 _ _ _ _ _)
   |(with_reducible exact ih1 _ _ _ _ _)
   |(with_reducible exact ih2 _ _ _ _ _ _)
   |(with_reducible exact Qbh.mono _ _ _ _ _)
   |(with_reducible exact Qb9.mono _ _ _ _)
   |(with_reducible exact Qbn.mono _ _)
   |(with_reducible exact Qy.mono _ _)
   |(with_reducible exact LeO.refl _)
   |(with_reducible exact LeO.none _)
   |(with_reducible refine LeO.ite ?_ ?_)
   |(with_reducible refine LeO.bind ?_ (fun _=> ?_))
   |exact ih0 _ _ _ _ _
   |exact ih1 _ _ _ _ _
   |exact ih2 _ _ _ _ _ _
   |exact Qbh.mono _ _ _ _ _
   |exact Qb9.mono _ _ _ _
   |exact Qbn.mono _ _
   |exact Qy.mono _ _
   |exact LeO.none _
   |refine LeO.ite ?_ ?_
   |refine LeO.bind ?_ (fun _=> ?_)
  ·
   intro y0 y1 y2 y3 y4 y5;unfold Qv.l0
   repeat' first
   |(with_reducible exact ih0 _ _ _ _ _)
   |(with_reducible exact ih1 _ _ _ _ _)
   |(with_reducible exact ih2 _ _ _ _ _ _)
   |(with_reducible exact Qbh.mono _ _ _ _ _)
   |(with_reducible exact Qb9.mono _ _ _ _)
   |(with_reducible exact Qbn.mono _ _)
   |(with_reducible exact Qy.mono _ _)
   |(with_reducible exact LeO.refl _)
   |(with_reducible exact LeO.none _)
   |(with_reducible refine LeO.ite ?_ ?_)
   |(with_reducible refine LeO.bind ?_ (fun _=> ?_))
   |exact ih0 _ _ _ _ _
   |exact ih1 _ _ _ _ _
   |exact ih2 _ _ _ _ _ _
   |exact Qbh.mono _ _ _ _ _
   |exact Qb9.mono _ _ _ _
   |exact Qbn.mono _ _
   |exact Qy.mono _ _
   |exact LeO.none _
   |refine LeO.ite ?_ ?_
   |refine LeO.bind ?_ (fun _=> ?_)
theorem Qv.mono : ∀ a0 a1 a2 a3 k, LeO (Qv.f k a0 a1 a2 a3) (Qv.f (k + 1) a0 a1 a2 a3) := by
 intro a0 a1 a2 a3 k;obtain ⟨ih0,ih1,ih2⟩:=Qv.mono_l k;unfold Qv.f
 repeat' first
  |(with_reducible exact ih0 _ _ _ _ _)
  |(with_reducible exact ih1 _ _ _ _ _)
  |(with_reducible exact ih2 _ _ _ _ _ _)
  |(with_reducible exact Qbh.mono _ _ _ _ _)
  |(with_reducible exact Qb9.mono _ _ _ _)
  |(with_reducible exact Qbn.mono _ _)
  |(with_reducible exact Qy.mono _ _)
  |(with_reducible exact LeO.refl _)
  |(with_reducible exact LeO.none _)
  |(with_reducible refine LeO.ite ?_ ?_)
  |(with_reducible refine LeO.bind ?_ (fun _=> ?_))
  |exact ih0 _ _ _ _ _
  |exact ih1 _ _ _ _ _
  |exact ih2 _ _ _ _ _ _
  |exact Qbh.mono _ _ _ _ _
  |exact Qb9.mono _ _ _ _
  |exact Qbn.mono _ _
  |exact Qy.mono _ _
  |exact LeO.none _
  |refine LeO.ite ?_ ?_
  |refine LeO.bind ?_ (fun _=> ?_)
set_option maxHeartbeats 8000000 in
set_option maxRecDepth 100000 in
theorem Qv.calls (k : Nat) (A0_0 : Option Addr) (c0_0 : Nat) (l0_0 : List Int) (A1 : Option Addr) (c1 : Nat) (l1 : List Int) (a2 : Int) (a3 : Int) (r1 : List Int) (r2 : Bool) (w : World) (hr0_0 : Kd.C (Kd.int .i64) w A0_0 l0_0.length l0_0) (hc0_0 : l0_0.length ≤ c0_0) (hr1 : Kd.C (Kd.int .i64) w A1 l1.length l1) (hc1 : l1.length ≤ c1) (h : Qv.f k l0_0 l1 a2 a3 = some (r1, r2)) :
 Calls Try.prog 33 #[.agg #[.slice A0_0 l0_0.length c0_0], .slice A1 l1.length c1, .int .i64 a2, .int .i64 a3] w fun e w'=> ∃ v0_:Value,e= .returned (.tuple #[v0_, .bool r2])∧Kd.R (Kd.int .i64) 3 w' w.heap.size (fun _=>True) v0_ r1∧Below w.heap.size w w':=by
 have hu26:=Try.underlying26;have HR0_0:=Aside0.mk hr0_0;have HC0_0:=Aside0.mk hc0_0;clear hr0_0 hc0_0;have HR1:=Aside0.mk hr1;have HC1:=Aside0.mk hc1;clear hr1 hc1;have HB:=Aside0.mk (Below.refl w.heap.size w);have H:((Qb9.f k l0_0 l1 a2).bind fun t488=>(if t488=true then ((Qcp.f a3 (-1000) 1000).bind fun t489=>(Qv.j0 k l1 a2 a3 (!t489) l0_0)) else (Qv.j0 k l1 a2 a3 true l0_0)))=some (r1,r2):=h;clear h;have HC5:=Aside0.mk H;clear H;go_enter Try.func33,Try.ntmps33;go_upto_region 1 with (first|((with_reducible refine Qbb (N:=4) rfl ?_);refine Qbg ?hg (N:=4) ?hd (cs:= #[.slice A0_0 l0_0.length c0_0]) (t:=26) ?hr ?_;(case hd=>rfl);(case hg=>rfl);(case hr=>first|(go_simp;done)|(go_simp;rfl));intro gb487 hg w6 hbox hb;have BK487:=Aside0.mk (hbox);have GW487:=Aside0.mk ((by rw [hg];exact (Qq (by repeat (first|(with_reducible first|exact HB.out|apply Qc|apply Qa|apply Qd)|exact HB.out))):w.heap.size≤gb487));have GE487:=GW487;replace HB:=Aside0.mk (Qj (by repeat (first|(with_reducible first|exact HB.out|apply Qc|apply Qa|apply Qd)|exact HB.out)) hb);clear hb hbox hg))
 (try simp only [Act.put,List.setIfInBounds_toArray,List.set_cons_zero,List.set_cons_succ])
 go_cut [21] (fun v21 wc=> ∃ (kq:Nat) (x21_4:Bool),v21= .bool x21_4∧Aside0 (Qv.j0 kq l1 a2 a3 x21_4 l0_0=some (r1,r2))∧Aside0 (kq≤k)∧Aside0 (wc.heap[gb487]? =some (.cells #[(.slice A0_0 l0_0.length c0_0)] 26 (0,0)))∧Aside0 (Below w.heap.size w wc))
 case first=>
  have H:=HC5.out;clear HC5;replace H:=Option.bind_eq_some_iff.mp H;obtain ⟨t488,A70,H⟩:=H;replace H:(if t488=true then ((Qcp.f a3 (-1000) 1000).bind fun t489=>(Qv.j0 k l1 a2 a3 (!t489) l0_0)) else (Qv.j0 k l1 a2 a3 true l0_0))=some (r1,r2):=H;have A7:=Aside0.mk A70;clear A70
  by_cases c8:t488=true
  ·
   subst c8;have H1:((Qcp.f a3 (-1000) 1000).bind fun t489=>(Qv.j0 k l1 a2 a3 (!t489) l0_0))=some (r1,r2):=by rw [if_pos rfl] at H;exact H
   clear H;have H:=H1;clear H1;replace H:=Option.bind_eq_some_iff.mp H;obtain ⟨t489,A90,H⟩:=H;replace H:(Qv.j0 k l1 a2 a3 (!t489) l0_0)=some (r1,r2):=H;have A9:=Aside0.mk A90;clear A90;have H':=Aside0.mk H;clear H;have hcz10_0:w6.cell? ⟨gb487,0,none⟩=some (.slice A0_0 l0_0.length c0_0):=(Qx BK487.out 0).trans rfl;have hfz10_0:=Qp BK487.out 0;go_wp2_with (first|((with_reducible refine Qk (f:=62) rfl ?_);refine Q6 (some 15) rfl rfl Try.func62 (by kernel_rfl) rfl #[.agg #[.slice A0_0 l0_0.length c0_0], .slice A1 l1.length c1, .int .i64 a2] rfl (by (try simp only [List.map_toArray,List.map_cons,List.map_nil]);first|done|rfl|(simp only [List.length_drop,List.length_take];rfl)) ?_;(with_reducible refine (Qb9.calls k _ _ l0_0 _ _ l1 a2 true _ ?side1 ?side2 ?side3 ?side4 A7.out).mono ?_);(case side1=>repeat (first|exact (Kd.C_below HR0_0.out HB.out)|(with_reducible refine Kd.C_alloc ?_ _)|(with_reducible refine Kd.C_drewN ?_ _)|(with_reducible refine Kd.C_drew ?_)));(case side2=>exact HC0_0.out);(case side3=>repeat (first|exact (Kd.C_below HR1.out HB.out)|(with_reducible refine Kd.C_alloc ?_ _)|(with_reducible refine Kd.C_drewN ?_ _)|(with_reducible refine Kd.C_drew ?_)));(case side4=>exact HC1.out);rintro e w11 ⟨rfl,hb⟩;refine ⟨_,rfl,?_⟩;replace BK487:=Aside0.mk (Qu (g:=gb487) (o:= .cells #[.slice A0_0 l0_0.length c0_0] 26 (0,0)) (by (with_reducible repeat (first|refine Qg ?_ _|refine Qh ?_|refine Qf ?_ _));exact BK487.out) hb);replace HB:=Aside0.mk (Qj (by repeat (first|(with_reducible first|exact HB.out|apply Qc|apply Qa|apply Qd|refine Qe ?_ GE487.out)|exact HB.out)) hb);(try clear hb);(try clear hb2);(try clear hk);(try clear hi))|(go_at_call 81;(with_reducible refine (Qcp.calls a3 (-1000) 1000 t489 _ A9.out).mono ?_);rintro e w' ⟨rfl,⟨nd,rfl⟩⟩))
   go_meet
   case rel=>exact ⟨_,(!t489),(by first|rfl|(simp;done)|(simp [*];done)),H',⟨by first|omega|exact Nat.le_refl _⟩,⟨by (with_reducible repeat (first|refine Qg ?_ _|refine Qh ?_|refine Qf ?_ _));exact BK487.out⟩,⟨by repeat (first|(with_reducible first|exact HB.out|apply Qc|apply Qa|apply Qd|refine Qe ?_ GE487.out)|exact HB.out)⟩⟩
  ·
   replace c8:=Bool.eq_false_iff.mpr c8;subst c8;have H1:(Qv.j0 k l1 a2 a3 true l0_0)=some (r1,r2):=by rw [if_neg (show ¬ (false=true) by decide)] at H;exact H
   clear H;have H:=H1;clear H1;have H':=Aside0.mk H;clear H;have hcz12_0:w6.cell? ⟨gb487,0,none⟩=some (.slice A0_0 l0_0.length c0_0):=(Qx BK487.out 0).trans rfl;have hfz12_0:=Qp BK487.out 0;go_wp2_with (first|((with_reducible refine Qk (f:=62) rfl ?_);refine Q6 (some 15) rfl rfl Try.func62 (by kernel_rfl) rfl #[.agg #[.slice A0_0 l0_0.length c0_0], .slice A1 l1.length c1, .int .i64 a2] rfl (by (try simp only [List.map_toArray,List.map_cons,List.map_nil]);first|done|rfl|(simp only [List.length_drop,List.length_take];rfl)) ?_;(with_reducible refine (Qb9.calls k _ _ l0_0 _ _ l1 a2 false _ ?side1 ?side2 ?side3 ?side4 A7.out).mono ?_);(case side1=>repeat (first|exact (Kd.C_below HR0_0.out HB.out)|(with_reducible refine Kd.C_alloc ?_ _)|(with_reducible refine Kd.C_drewN ?_ _)|(with_reducible refine Kd.C_drew ?_)));(case side2=>exact HC0_0.out);(case side3=>repeat (first|exact (Kd.C_below HR1.out HB.out)|(with_reducible refine Kd.C_alloc ?_ _)|(with_reducible refine Kd.C_drewN ?_ _)|(with_reducible refine Kd.C_drew ?_)));(case side4=>exact HC1.out);rintro e w13 ⟨rfl,hb⟩;refine ⟨_,rfl,?_⟩;replace BK487:=Aside0.mk (Qu (g:=gb487) (o:= .cells #[.slice A0_0 l0_0.length c0_0] 26 (0,0)) (by (with_reducible repeat (first|refine Qg ?_ _|refine Qh ?_|refine Qf ?_ _));exact BK487.out) hb);replace HB:=Aside0.mk (Qj (by repeat (first|(with_reducible first|exact HB.out|apply Qc|apply Qa|apply Qd|refine Qe ?_ GE487.out)|exact HB.out)) hb);(try clear hb);(try clear hb2);(try clear hk);(try clear hi)))
   go_meet
   case rel=>exact ⟨_,(true),(by first|rfl|(simp;done)|(simp [*];done)),H',⟨by first|omega|exact Nat.le_refl _⟩,⟨by (with_reducible repeat (first|refine Qg ?_ _|refine Qh ?_|refine Qf ?_ _));exact BK487.out⟩,⟨by repeat (first|(with_reducible first|exact HB.out|apply Qc|apply Qa|apply Qd|refine Qe ?_ GE487.out)|exact HB.out)⟩⟩
 case rest=>
  clear HC5
  try clear c1
  try clear p2
  try clear c3
  try clear c6
  try clear c8
  try clear hcz10_0
  try clear hcz12_0
  try clear hfz10_0
  try clear hfz12_0
  obtain ⟨kq,x21_4,rfl,HA,HJ4,BK487,HB⟩:=hcut;cases kq with
  |zero=>exact absurd HA.out (by simp [Qv.j0])
  |succ kj4=>
   have H:=HA.out;clear HA;simp only [Qv.j0] at H
   by_cases c14:x21_4=true
   ·
    subst c14;have H1:(some (([] :List Int),false))=some (r1,r2):=by rw [if_pos rfl] at H;exact H
    clear H;have H:=H1;clear H1;simp only [Option.some.injEq,Prod.mk.injEq] at H;obtain ⟨rfl,rfl⟩:=H;go_wp2
    go_ret2
    exact ⟨_,by first|rfl|(simp [Qm,Ql] <;>rfl)|(simp [*,Qm,Ql] <;>rfl),by first|exact Kd.R_nil _ _ _ _ _|exact Kd.N_nil _ _ _ _ _|exact Kd.V_nil _ _ _ _ _|exact Kd.Q_nil _ _ _ _ _|exact Kd.S_nil _ _ _ _ _,by repeat (first|(with_reducible first|exact HB.out|apply Qc|apply Qa|apply Qd|refine Qe ?_ GE487.out)|exact HB.out)⟩
   ·
    replace c14:=Bool.eq_false_iff.mpr c14;subst c14;have H1:((Qb5.f l1).bind fun t490=>((Qch.f l0_0).bind fun t493=>((Qbn.f kj4 t493).bind fun t494=>(if a3>0 then ((Qy.f kj4 t494).bind fun t497=>(Qv.j1 kj4 a2 a3 t490 t497 l0_0)) else (Qv.j1 kj4 a2 a3 t490 t494 l0_0)))))=some (r1,r2):=by rw [if_neg (show ¬ (false=true) by decide)] at H;exact H
    clear H;have H:=H1;clear H1;replace H:=Option.bind_eq_some_iff.mp H;obtain ⟨t490,A150,H⟩:=H;replace H:((Qch.f l0_0).bind fun t493=>((Qbn.f kj4 t493).bind fun t494=>(if a3>0 then ((Qy.f kj4 t494).bind fun t497=>(Qv.j1 kj4 a2 a3 t490 t497 l0_0)) else (Qv.j1 kj4 a2 a3 t490 t494 l0_0))))=some (r1,r2):=H;have A15:=Aside0.mk A150;clear A150;replace H:=Option.bind_eq_some_iff.mp H;obtain ⟨t493,A160,H⟩:=H;replace H:((Qbn.f kj4 t493).bind fun t494=>(if a3>0 then ((Qy.f kj4 t494).bind fun t497=>(Qv.j1 kj4 a2 a3 t490 t497 l0_0)) else (Qv.j1 kj4 a2 a3 t490 t494 l0_0)))=some (r1,r2):=H;have A16:=Aside0.mk A160;clear A160;replace H:=Option.bind_eq_some_iff.mp H;obtain ⟨t494,A170,H⟩:=H;replace H:(if a3>0 then ((Qy.f kj4 t494).bind fun t497=>(Qv.j1 kj4 a2 a3 t490 t497 l0_0)) else (Qv.j1 kj4 a2 a3 t490 t494 l0_0))=some (r1,r2):=H;have A17:=Aside0.mk A170;clear A170;have HC18:=Aside0.mk H;clear H
    try go_wp2
    replace BK487:=Aside0.mk (Qh BK487.out);replace HB:=Aside0.mk (Qd HB.out);refine Qgy (n:=7) (S:=fun w'=>w'.cell? ⟨gb487,0,none⟩=some (.slice A0_0 l0_0.length c0_0)) (ds:= []) #[false,false,false,false,false,false,false] (by kernel_rfl) rfl rfl ((Qx BK487.out 0).trans rfl) (fun hHeld=> ?_);generalize wc.drew=w19 at BK487 HB hHeld ⊢;refine Qc3 (i:=0) (N:=some 22) (v:= ?_) (a':= ?_) #[true,false,false,false,false,false,false] rfl rfl (by kernel_rfl) (fun _ _ _ h=>h) (Or.inl ⟨by rfl,?_⟩) ?_ ?_;rotate_left
    ·
     intro w';go_simp
     with_reducible rfl
    rotate_left
    ·
     simp only [Act.put,List.setIfInBounds_toArray,List.set_cons_zero,List.set_cons_succ,Qcb,Qcj];rfl
    refine take_ (i:=2) (N:=some 24) (v:= ?_) (a':= ?_) #[true,false,true,false,false,false,false] rfl rfl (by kernel_rfl) (fun _ _ _ h=>h) (Or.inl ⟨by rfl,?_⟩) hHeld ?_ ?_;rotate_left
    ·
     intro w' s0;go_simp
     with_reducible rfl
    rotate_left
    ·
     simp only [Act.put,List.setIfInBounds_toArray,List.set_cons_zero,List.set_cons_succ,Qcb,Qcj];rfl
    refine one_ (i:=1) (N:=some 23) #[true,true,true,false,false,false,false] rfl rfl (by kernel_rfl) (by decide) (fun K hK=> ?_);refine goes_ Try.func66 (by kernel_rfl) rfl #[.slice A1 l1.length c1] (by rfl) rfl rfl (by (try simp only [List.map_toArray,List.map_cons,List.map_nil]);first|done|rfl|(simp only [List.length_drop,List.length_take];rfl)) ?_
    with_reducible refine (Qb5.calls _ _ l1 t490 _ ?side1 ?side2 A15.out).mono ?_
    (case side1=>repeat (first|exact (Kd.C_below HR1.out HB.out)|(with_reducible refine Kd.C_alloc ?_ _)|(with_reducible refine Kd.C_drewN ?_ _)|(with_reducible refine Kd.C_drew ?_)))
    (case side2=>exact HC1.out)
    rintro e w20 ⟨v491,rfl,ho0,hb⟩;refine ⟨_,rfl,?_⟩;have HO492:=Aside0.mk (Kd.R_lower ho0 (Qq (by repeat (first|(with_reducible first|exact HB.out|apply Qc|apply Qa|apply Qd|refine Qe ?_ GE487.out)|exact HB.out))));replace BK487:=Aside0.mk (Qu (g:=gb487) (o:= .cells #[.slice A0_0 l0_0.length c0_0] 26 (0,0)) (by (with_reducible repeat (first|refine Qg ?_ _|refine Qh ?_|refine Qf ?_ _));exact BK487.out) hb);replace HB:=Aside0.mk (Qj (by repeat (first|(with_reducible first|exact HB.out|apply Qc|apply Qa|apply Qd|refine Qe ?_ GE487.out)|exact HB.out)) hb)
    (try clear hb)
    (try clear hb2)
    (try clear hk)
    (try clear hi)
    (try clear ho0)
    refine hK.out _ _ ((Qx BK487.out 0).trans rfl) (fun hHeld=> ?_);clear hK K;refine Qhx (a':= ?_) ?_ ?_;rotate_left
    ·
     show Act.put _ (some 23) _=_
     simp only [Act.put,List.setIfInBounds_toArray,List.set_cons_zero,List.set_cons_succ,Qcb,Qcj];rfl
    refine one_ (i:=3) (N:=some 25) #[true,true,true,true,false,false,false] rfl rfl (by kernel_rfl) (by decide) (fun K hK=> ?_);refine goes_ Try.func65 (by kernel_rfl) rfl #[.agg #[.slice A0_0 l0_0.length c0_0]] (by rfl) rfl rfl (by (try simp only [List.map_toArray,List.map_cons,List.map_nil]);first|done|rfl|(simp only [List.length_drop,List.length_take];rfl)) ?_
    with_reducible refine (Qch.calls _ _ l0_0 t493 _ ?side1 ?side2 A16.out).mono ?_
    (case side1=>repeat (first|exact (Kd.C_below HR0_0.out HB.out)|(with_reducible refine Kd.C_alloc ?_ _)|(with_reducible refine Kd.C_drewN ?_ _)|(with_reducible refine Kd.C_drew ?_)))
    (case side2=>exact HC0_0.out)
    rintro e w21 ⟨rfl,hb⟩;refine ⟨_,rfl,?_⟩;replace HO492:=Aside0.mk (Kd.R_below (by (with_reducible repeat (first|apply Kd.R_alloc|apply Kd.R_drewN|apply Kd.R_drew));exact HO492.out) hb);replace BK487:=Aside0.mk (Qu (g:=gb487) (o:= .cells #[.slice A0_0 l0_0.length c0_0] 26 (0,0)) (by (with_reducible repeat (first|refine Qg ?_ _|refine Qh ?_|refine Qf ?_ _));exact BK487.out) hb);replace HB:=Aside0.mk (Qj (by repeat (first|(with_reducible first|exact HB.out|apply Qc|apply Qa|apply Qd|refine Qe ?_ GE487.out)|exact HB.out)) hb)
    (try clear hb)
    (try clear hb2)
    (try clear hk)
    (try clear hi)
    refine hK.out _ _ ((Qx BK487.out 0).trans rfl) (fun hHeld=> ?_);clear hK K;refine Qhx (a':= ?_) ?_ ?_;rotate_left
    ·
     show Act.put _ (some 25) _=_
     simp only [Act.put,List.setIfInBounds_toArray,List.set_cons_zero,List.set_cons_succ,Qcb,Qcj];rfl
    refine one_ (i:=4) (N:=some 26) #[true,true,true,true,true,false,false] rfl rfl (by kernel_rfl) (by decide) (fun K hK=> ?_);refine goes_ Try.func64 (by kernel_rfl) rfl #[.int .i64 t493] (by rfl) rfl rfl (by (try simp only [List.map_toArray,List.map_cons,List.map_nil]);first|done|rfl|(simp only [List.length_drop,List.length_take];rfl)) ?_
    with_reducible refine (Qbn.calls kj4 t493 t494 _ A17.out).mono ?_
    rintro e w22 ⟨v495,rfl,ho0,hb⟩;refine ⟨_,rfl,?_⟩;have HO496:=Aside0.mk (Kd.R_lower (Kd.R_new' ho0 (Kd.R_lt (by (with_reducible repeat (first|apply Kd.R_alloc|apply Kd.R_drewN|apply Kd.R_drew));exact HO492.out))) (Qq (by repeat (first|(with_reducible first|exact HB.out|apply Qc|apply Qa|apply Qd|refine Qe ?_ GE487.out)|exact HB.out))));replace HO492:=Aside0.mk (Kd.R_elder' (by (with_reducible repeat (first|apply Kd.R_alloc|apply Kd.R_drewN|apply Kd.R_drew));exact HO492.out) (Kd.R_base ho0) hb);replace BK487:=Aside0.mk (Qu (g:=gb487) (o:= .cells #[.slice A0_0 l0_0.length c0_0] 26 (0,0)) (by (with_reducible repeat (first|refine Qg ?_ _|refine Qh ?_|refine Qf ?_ _));exact BK487.out) hb);replace HB:=Aside0.mk (Qj (by repeat (first|(with_reducible first|exact HB.out|apply Qc|apply Qa|apply Qd|refine Qe ?_ GE487.out)|exact HB.out)) hb)
    (try clear hb)
    (try clear hb2)
    (try clear hk)
    (try clear hi)
    (try clear ho0)
    refine hK.out _ _ ((Qx BK487.out 0).trans rfl) (fun hHeld=> ?_);clear hK K;refine Qhx (a':= ?_) ?_ ?_;rotate_left
    ·
     show Act.put _ (some 26) _=_
     simp only [Act.put,List.setIfInBounds_toArray,List.set_cons_zero,List.set_cons_succ,Qcb,Qcj];rfl
    refine Qc3 (i:=5) (N:=some 10) (v:= ?_) (a':= ?_) #[true,true,true,true,true,true,false] rfl rfl (by kernel_rfl) (fun _ _ _ h=>h) (Or.inl ⟨by rfl,?_⟩) ?_ ?_;rotate_left
    ·
     intro w';go_simp
     with_reducible rfl
    rotate_left
    ·
     simp only [Act.put,List.setIfInBounds_toArray,List.set_cons_zero,List.set_cons_succ,Qcb,Qcj];rfl
    refine Qc3 (i:=6) (N:=some 11) (v:= ?_) (a':= ?_) #[true,true,true,true,true,true,true] rfl rfl (by kernel_rfl) (fun _ _ _ h=>h) (Or.inl ⟨by rfl,?_⟩) ?_ ?_;rotate_left
    ·
     intro w';go_simp
     with_reducible rfl
    rotate_left
    ·
     simp only [Act.put,List.setIfInBounds_toArray,List.set_cons_zero,List.set_cons_succ,Qcb,Qcj];rfl
    refine Qik (by kernel_rfl) ?_
    go_upto_if 28 with (fail)
    go_cut [] (fun wc=> ∃ (kq:Nat) (x11_17:List Int),Aside0 (Qv.j1 kq a2 a3 t490 x11_17 l0_0=some (r1,r2))∧Aside0 (kq≤kj4)∧Aside0 (Kd.R (Kd.int .i64) 3 wc w.heap.size (fun k_=>some k_≠(v495:Value).ownBlock) v491 t490)∧Aside0 (Kd.R (Kd.int .i64) 3 wc w.heap.size (fun k_=>some k_≠(v491:Value).ownBlock) v495 x11_17)∧Aside0 (wc.heap[gb487]? =some (.cells #[(.slice A0_0 l0_0.length c0_0)] 26 (0,0)))∧Aside0 (Below w.heap.size w wc))
    case first=>
     have H:=HC18.out;clear HC18
     by_cases c23:a3>0
     ·
      rw [if_pos c23] at H;have c23b0:decide (0<a3)=true:=decide_eq_true c23;clear c23
      (first|rw [c23b0] |(simp only [Qcb,Qcj];rw [c23b0])|skip)
      replace H:=Option.bind_eq_some_iff.mp H;obtain ⟨t497,A240,H⟩:=H;replace H:(Qv.j1 kj4 a2 a3 t490 t497 l0_0)=some (r1,r2):=H;have A24:=Aside0.mk A240;clear A240;have H':=Aside0.mk H;clear H;obtain ⟨Ao25,co25,eo25⟩:=Kd.R_slice HO496.out;subst eo25;go_wp2_with (first|((with_reducible refine Qk (f:=93) rfl ?_);refine Q6 (some 30) rfl rfl Try.func93 (by kernel_rfl) rfl #[.slice Ao25 t494.length co25] rfl (by (try simp only [List.map_toArray,List.map_cons,List.map_nil]);first|done|rfl|(simp only [List.length_drop,List.length_take];rfl)) ?_;(with_reducible refine (Qy.calls kj4 (fun k_=>some k_=(.slice Ao25 t494.length co25:Value).ownBlock) (.slice Ao25 t494.length co25) t494 t497 w _ ?side1 ?side2 A24.out).mono ?_);(case side1=>repeat (first|(with_reducible first|exact HB.out|apply Qc|apply Qa|apply Qd|refine Qe ?_ GE487.out)|exact HB.out));(case side2=>exact Kd.R_tight rfl HO496.out);rintro e w26 ⟨rfl,hy0,hb,hkp⟩;refine ⟨_,rfl,?_⟩;replace BK487:=Aside0.mk (Qgc (by (with_reducible repeat (first|refine Qg ?_ _|refine Qh ?_|refine Qf ?_ _));exact BK487.out) hkp (fun hs_=>(fun e_=>(Kd.R_ne HO496.out BK487.out (by decide)) e_) hs_));replace HO492:=Aside0.mk (Kd.R_mono (ok':=fun k_=>some k_≠(.slice Ao25 t494.length co25:Value).ownBlock) (Kd.R_keptB (HO492.out) hkp (fun k_ hk_ hs_=>(hk_.2) hs_)) (fun k_ hk_=>hk_.1.2));replace HO496:=Aside0.mk (Kd.R_reok rfl hy0 (fun k_ e_=>HO496.out.1 k_ e_));replace HB:=Aside0.mk (hb);(try clear hb);(try clear hkp);(try clear hy0)))
      go_meet
      case rel=>exact ⟨_,(t497),H',⟨by have:=HJ4.out;first|omega|exact Nat.le_refl _⟩,⟨by (with_reducible repeat (first|apply Kd.R_alloc|apply Kd.R_drewN|apply Kd.R_drew));exact HO492.out⟩,⟨by (with_reducible repeat (first|apply Kd.R_alloc|apply Kd.R_drewN|apply Kd.R_drew));exact Kd.R_mono HO496.out (fun _ hk=>hk.2)⟩,⟨by (with_reducible repeat (first|refine Qg ?_ _|refine Qh ?_|refine Qf ?_ _));exact BK487.out⟩,⟨by repeat (first|(with_reducible first|exact HB.out|apply Qc|apply Qa|apply Qd|refine Qe ?_ GE487.out)|exact HB.out)⟩⟩
     ·
      rw [if_neg c23] at H;have c23b0:decide (0<a3)=false:=decide_eq_false c23;clear c23
      (first|rw [c23b0] |(simp only [Qcb,Qcj];rw [c23b0])|skip)
      have H':=Aside0.mk H;clear H;go_wp2
      go_meet
      case rel=>exact ⟨_,(t494),H',⟨by have:=HJ4.out;first|omega|exact Nat.le_refl _⟩,⟨by (with_reducible repeat (first|apply Kd.R_alloc|apply Kd.R_drewN|apply Kd.R_drew));exact Kd.R_mono HO492.out (fun _ hk=>hk.2)⟩,⟨by (with_reducible repeat (first|apply Kd.R_alloc|apply Kd.R_drewN|apply Kd.R_drew));exact Kd.R_mono HO496.out (fun _ hk=>hk.2)⟩,⟨by (with_reducible repeat (first|refine Qg ?_ _|refine Qh ?_|refine Qf ?_ _));exact BK487.out⟩,⟨by repeat (first|(with_reducible first|exact HB.out|apply Qc|apply Qa|apply Qd|refine Qe ?_ GE487.out)|exact HB.out)⟩⟩
    case rest=>
     clear HC18
     try clear c1
     try clear c2
     try clear p2
     try clear c3
     try clear c6
     try clear c8
     try clear c9
     try clear c14
     try clear c23
     try clear c23b0
     try clear hcz10_0
     try clear hcz12_0
     try clear hfz10_0
     try clear hfz12_0
     try clear p2
     obtain ⟨kq,x11_17,HA,HJ17,HO_10,HO_11,BK487,HB⟩:=hcut;cases kq with
     |zero=>exact absurd HA.out (by simp [Qv.j1])
     |succ kj17=>
      have H:=HA.out;clear HA;simp only [Qv.j1] at H;obtain ⟨ji27,hji27⟩: ∃ j_:Int,(mx a3 (wrap64 (-a3)))=j_:=⟨_,rfl⟩
      replace H:(Qv.l0 kj17 a2 t490 x11_17 ji27 0 l0_0)=some (r1,r2):=by first|(rw [hji27] at H;exact H)|(simp only [hji27] at H ⊢;exact H)
      have hji27_:(if a3<(wrap64 (-a3)) then (wrap64 (-a3)) else a3)=ji27:=hji27;have H':=Aside0.mk H;clear H;go_wp2
      go_loopg [35] kj17 (fun kq v35 w'=> ∃ (x10_3:List Int) (x35_3:Int),v35= .int .i64 x35_3∧Aside0 (Qv.l0 kq a2 x10_3 x11_17 ji27 x35_3 l0_0=some (r1,r2))∧Aside0 (kq≤kj17)∧Aside0 (Kd.R (Kd.int .i64) 3 w' w.heap.size (fun k_=>some k_≠(v495:Value).ownBlock) v491 x10_3)∧Aside0 (Kd.R (Kd.int .i64) 3 w' w.heap.size (fun k_=>some k_≠(v491:Value).ownBlock) v495 x11_17)∧Aside0 (w'.heap[gb487]? =some (.cells #[(.slice A0_0 l0_0.length c0_0)] 26 (0,0)))∧Aside0 (Below w.heap.size w w'))
      case atStart=>exact ⟨(t490),(0),(by first|rfl|(simp;done)|(simp [*];done)),H',⟨Nat.le_refl _⟩,⟨by (with_reducible repeat (first|apply Kd.R_alloc|apply Kd.R_drewN|apply Kd.R_drew));exact HO_10.out⟩,⟨by (with_reducible repeat (first|apply Kd.R_alloc|apply Kd.R_drewN|apply Kd.R_drew));exact HO_11.out⟩,⟨by (with_reducible repeat (first|refine Qg ?_ _|refine Qh ?_|refine Qf ?_ _));exact BK487.out⟩,⟨by repeat (first|(with_reducible first|exact HB.out|apply Qc|apply Qa|apply Qd|refine Qe ?_ GE487.out)|exact HB.out)⟩⟩
      case round=>
       clear H'
       try clear c1
       try clear c2
       try clear p2
       try clear c3
       try clear c6
       try clear p6
       try clear c8
       try clear c9
       try clear c14
       try clear c23
       try clear c23b0
       try clear hcz10_0
       try clear hcz12_0
       try clear hfz10_0
       try clear hfz12_0
       try clear p2
       obtain ⟨x10_3,x35_3,rfl,HA,HK3,HO_10,HO_11,BK487,HB⟩:=hrel;cases gk with
       |zero=>exact absurd HA.out (by simp [Qv.l0])
       |succ k3=>
        have H:=HA.out;clear HA;simp only [Qv.l0] at H
        by_cases c28:x35_3<ji27
        ·
         rw [if_pos c28] at H;have c28b0:decide (x35_3<ji27)=true:=decide_eq_true c28;clear c28;replace H:=Option.bind_eq_some_iff.mp H;obtain ⟨t498,A290,H⟩:=H;replace H:(Qv.l0 k3 a2 t498 x11_17 ji27 (wrap64 (x35_3+1)) l0_0)=some (r1,r2):=H;have A29:=Aside0.mk A290;clear A290;have H':=Aside0.mk H;clear H;have hcz30_0:wr.cell? ⟨gb487,0,none⟩=some (.slice A0_0 l0_0.length c0_0):=(Qx BK487.out 0).trans rfl;have hfz30_0:=Qp BK487.out 0;obtain ⟨Ao31,co31,eo31⟩:=Kd.R_slice HO_10.out;subst eo31;obtain ⟨Ao32,co32,eo32⟩:=Kd.R_slice HO_11.out;subst eo32;go_wp2_with (first|((with_reducible refine Qk (f:=68) rfl ?_);refine Q6 (some 41) rfl rfl Try.func68 (by kernel_rfl) rfl #[.agg #[.slice A0_0 l0_0.length c0_0], .slice Ao31 x10_3.length co31, .int .i64 a2, .slice Ao32 x11_17.length co32] rfl (by (try simp only [List.map_toArray,List.map_cons,List.map_nil]);first|done|rfl|(simp only [List.length_drop,List.length_take];rfl)) ?_;(with_reducible refine (Qbh.calls k3 _ _ l0_0 (fun k_=>some k_=(.slice Ao31 x10_3.length co31:Value).ownBlock) (.slice Ao31 x10_3.length co31) x10_3 a2 _ _ x11_17 t498 w _ ?side1 ?side2 ?side3 ?side4 ?side5 ?side6 A29.out).mono ?_);(case side1=>repeat (first|(with_reducible first|exact HB.out|apply Qc|apply Qa|apply Qd|refine Qe ?_ GE487.out)|exact HB.out));(case side2=>exact Kd.C_kept_came (Kd.heap_int .i64) HR0_0.out (by repeat (first|(with_reducible first|exact HB.out|apply Qc|apply Qa|apply Qd|refine Qe ?_ GE487.out)|exact HB.out)) (fun k_ hs_=>(fun e_=>Kd.R_base HO_10.out k_ e_.symm) hs_));(case side3=>exact HC0_0.out);(case side4=>exact Kd.R_tight rfl HO_10.out);(case side5=>exact Kd.C_kept_own (HO_11.out) (fun k_ hk_ hs_=>(hk_) hs_));(case side6=>exact (Kd.R_reads' HO_11.out).2.1);rintro e w33 ⟨rfl,hy0,hb,hkp⟩;refine ⟨_,rfl,?_⟩;replace HO_11:=Aside0.mk (Kd.R_mono (ok':=fun k_=>some k_≠(.slice Ao31 x10_3.length co31:Value).ownBlock) (Kd.R_keptB (HO_11.out) hkp (fun k_ hk_ hs_=>(hk_) hs_)) (fun k_ hk_=>hk_.1));replace BK487:=Aside0.mk (Qgc (by (with_reducible repeat (first|refine Qg ?_ _|refine Qh ?_|refine Qf ?_ _));exact BK487.out) hkp (fun hs_=>(fun e_=>(Kd.R_ne HO_10.out BK487.out (by decide)) e_) hs_));replace HO_10:=Aside0.mk (Kd.R_reok rfl hy0 (fun k_ e_=>HO_10.out.1 k_ e_));replace HB:=Aside0.mk (hb);(try clear hb);(try clear hkp);(try clear hy0)));go_roundg k3
         case measure=>have:=HJ4.out;have:=HJ17.out;have:=HK3.out;omega
         case rel=>exact ⟨(t498),(wrap64 (x35_3+1)),(by first|rfl|(simp;done)|(simp [*];done)),H',⟨by have:=HJ4.out;have:=HJ17.out;have:=HK3.out;omega⟩,⟨by (with_reducible repeat (first|apply Kd.R_alloc|apply Kd.R_drewN|apply Kd.R_drew));exact HO_10.out⟩,⟨by (with_reducible repeat (first|apply Kd.R_alloc|apply Kd.R_drewN|apply Kd.R_drew));exact HO_11.out⟩,⟨by (with_reducible repeat (first|refine Qg ?_ _|refine Qh ?_|refine Qf ?_ _));exact BK487.out⟩,⟨by repeat (first|(with_reducible first|exact HB.out|apply Qc|apply Qa|apply Qd|refine Qe ?_ GE487.out)|exact HB.out)⟩⟩
        ·
         rw [if_neg c28] at H;have c28b0:decide (x35_3<ji27)=false:=decide_eq_false c28;clear c28;simp only [Option.some.injEq,Prod.mk.injEq] at H;obtain ⟨rfl,rfl⟩:=H;go_wp2
         go_ret2
         exact ⟨_,by first|rfl|(simp [Qm,Ql] <;>rfl)|(simp only [←hji27];first|rfl|(simp [Qm,Ql] <;>rfl))|(simp [*,Qm,Ql] <;>rfl),by (with_reducible repeat (first|apply Kd.R_alloc|apply Kd.R_drewN|apply Kd.R_drew));exact Kd.R_mono HO_10.out (fun _ hk=>trivial),by repeat (first|(with_reducible first|exact HB.out|apply Qc|apply Qa|apply Qd|refine Qe ?_ GE487.out)|exact HB.out)⟩
def Qcf.f (k : Nat) (l0_0 : List Int) (l1 : List Int) (a2 : Int) : Option (List Int × Bool) := (Qv.f k l0_0 l1 a2 1).bind fun bt500 => (some (bt500.1, bt500.2))
theorem Qcf.mono : ∀ a0 a1 a2 k, LeO (Qcf.f k a0 a1 a2) (Qcf.f (k + 1) a0 a1 a2) := by
 intro a0 a1 a2 k;unfold Qcf.f
 repeat' first
  |(with_reducible exact Qv.mono _ _ _ _ _)
  |(with_reducible exact LeO.refl _)
  |(with_reducible exact LeO.none _)
  |(with_reducible refine LeO.ite ?_ ?_)
  |(with_reducible refine LeO.bind ?_ (fun _=> ?_))
  |exact Qv.mono _ _ _ _ _
  |exact LeO.none _
  |refine LeO.ite ?_ ?_
  |refine LeO.bind ?_ (fun _=> ?_)
set_option maxHeartbeats 8000000 in
set_option maxRecDepth 100000 in
theorem Qcf.calls (k : Nat) (A0_0 : Option Addr) (c0_0 : Nat) (l0_0 : List Int) (A1 : Option Addr) (c1 : Nat) (l1 : List Int) (a2 : Int) (r1 : List Int) (r2 : Bool) (w : World) (hr0_0 : Kd.C (Kd.int .i64) w A0_0 l0_0.length l0_0) (hc0_0 : l0_0.length ≤ c0_0) (hr1 : Kd.C (Kd.int .i64) w A1 l1.length l1) (hc1 : l1.length ≤ c1) (h : Qcf.f k l0_0 l1 a2 = some (r1, r2)) :
 Calls Try.prog 11 #[.agg #[.slice A0_0 l0_0.length c0_0], .slice A1 l1.length c1, .int .i64 a2] w fun e w'=> ∃ v0_:Value,e= .returned (.tuple #[v0_, .bool r2])∧Kd.R (Kd.int .i64) 3 w' w.heap.size (fun _=>True) v0_ r1∧Below w.heap.size w w':=by
 have hu26:=Try.underlying26;have HR0_0:=Aside0.mk hr0_0;have HC0_0:=Aside0.mk hc0_0;clear hr0_0 hc0_0;have HR1:=Aside0.mk hr1;have HC1:=Aside0.mk hc1;clear hr1 hc1;have HB:=Aside0.mk (Below.refl w.heap.size w);have H:((Qv.f k l0_0 l1 a2 1).bind fun bt500=>(some (bt500.1,bt500.2)))=some (r1,r2):=h;clear h;replace H:=Option.bind_eq_some_iff.mp H;obtain ⟨⟨t500,t503⟩,A40,H⟩:=H;replace H:(some (t500,t503))=some (r1,r2):=H;have A4:=Aside0.mk A40;clear A40;simp only [Option.some.injEq,Prod.mk.injEq] at H;obtain ⟨rfl,rfl⟩:=H;go_enter Try.func11,Try.ntmps11;go_wp2_with (first|((with_reducible refine Qbb (N:=3) rfl ?_);refine Qbg ?hg (N:=3) ?hd (cs:= #[.slice A0_0 l0_0.length c0_0]) (t:=26) ?hr ?_;(case hd=>rfl);(case hg=>rfl);(case hr=>first|(go_simp;done)|(go_simp;rfl));intro gb499 hg w5 hbox hb;have BK499:=Aside0.mk (hbox);have GW499:=Aside0.mk ((by rw [hg];exact (Qq (by repeat (first|(with_reducible first|exact HB.out|apply Qc|apply Qa|apply Qd)|exact HB.out))):w.heap.size≤gb499));have GE499:=GW499;replace HB:=Aside0.mk (Qj (by repeat (first|(with_reducible first|exact HB.out|apply Qc|apply Qa|apply Qd)|exact HB.out)) hb);clear hb hbox hg;have hcz6_0:w5.cell? ⟨gb499,0,none⟩=some (.slice A0_0 l0_0.length c0_0):=(Qx BK499.out 0).trans rfl;have hfz6_0:=Qp BK499.out 0)|((with_reducible refine Qk (f:=33) rfl ?_);refine Q6 (some 11) rfl rfl Try.func33 (by kernel_rfl) rfl #[.agg #[.slice A0_0 l0_0.length c0_0], .slice A1 l1.length c1, .int .i64 a2, .int .i64 1] rfl (by (try simp only [List.map_toArray,List.map_cons,List.map_nil]);first|done|rfl|(simp only [List.length_drop,List.length_take];rfl)) ?_;(with_reducible refine (Qv.calls k _ _ l0_0 _ _ l1 a2 1 t500 t503 _ ?side1 ?side2 ?side3 ?side4 A4.out).mono ?_);(case side1=>repeat (first|exact (Kd.C_below HR0_0.out HB.out)|(with_reducible refine Kd.C_alloc ?_ _)|(with_reducible refine Kd.C_drewN ?_ _)|(with_reducible refine Kd.C_drew ?_)));(case side2=>exact HC0_0.out);(case side3=>repeat (first|exact (Kd.C_below HR1.out HB.out)|(with_reducible refine Kd.C_alloc ?_ _)|(with_reducible refine Kd.C_drewN ?_ _)|(with_reducible refine Kd.C_drew ?_)));(case side4=>exact HC1.out);rintro e w7 ⟨v501,rfl,ho0,hb⟩;refine ⟨_,rfl,?_⟩;have HO502:=Aside0.mk (Kd.R_lower ho0 (Qq (by repeat (first|(with_reducible first|exact HB.out|apply Qc|apply Qa|apply Qd|refine Qe ?_ GE499.out)|exact HB.out))));replace BK499:=Aside0.mk (Qu (g:=gb499) (o:= .cells #[.slice A0_0 l0_0.length c0_0] 26 (0,0)) (by (with_reducible repeat (first|refine Qg ?_ _|refine Qh ?_|refine Qf ?_ _));exact BK499.out) hb);replace HB:=Aside0.mk (Qj (by repeat (first|(with_reducible first|exact HB.out|apply Qc|apply Qa|apply Qd|refine Qe ?_ GE499.out)|exact HB.out)) hb);(try clear hb);(try clear hb2);(try clear hk);(try clear hi);(try clear ho0)))
 go_ret2
 exact ⟨_,by first|rfl|(simp [Qm,Ql] <;>rfl)|(simp [*,Qm,Ql] <;>rfl),by (with_reducible repeat (first|apply Kd.R_alloc|apply Kd.R_drewN|apply Kd.R_drew));exact HO502.out,by repeat (first|(with_reducible first|exact HB.out|apply Qc|apply Qa|apply Qd|refine Qe ?_ GE499.out)|exact HB.out)⟩
def Qc4.f (k : Nat) (l0 : List Int) : Option (List Int × List Int × Int) := (Q0.f k l0 0 0 10).bind fun bt506 => (some (bt506.1, bt506.2.1, bt506.2.2.1))
theorem Qc4.mono : ∀ a0 k, LeO (Qc4.f k a0) (Qc4.f (k + 1) a0) := by
 intro a0 k;unfold Qc4.f
 repeat' first
  |(with_reducible exact Q0.mono _ _ _ _ _)
  |(with_reducible exact LeO.refl _)
  |(with_reducible exact LeO.none _)
  |(with_reducible refine LeO.ite ?_ ?_)
  |(with_reducible refine LeO.bind ?_ (fun _=> ?_))
  |exact Q0.mono _ _ _ _ _
  |exact LeO.none _
  |refine LeO.ite ?_ ?_
  |refine LeO.bind ?_ (fun _=> ?_)
set_option maxHeartbeats 8000000 in
set_option maxRecDepth 100000 in
theorem Qc4.calls (k : Nat) (A0 : Option Addr) (c0 : Nat) (l0 : List Int) (r1 : List Int) (r2 : List Int) (r3 : Int) (w : World) (hr0 : Kd.C (Kd.int .u8) w A0 l0.length l0) (hc0 : l0.length ≤ c0) (h : Qc4.f k l0 = some (r1, r2, r3)) :
 Calls Try.prog 73 #[.slice A0 l0.length c0] w fun e w'=> ∃ v0_ v1_:Value,e= .returned (.tuple #[.agg #[v0_],v1_, .int .i64 r3])∧Kd.R (Kd.int .i64) 3 w' w.heap.size (fun k_=>some k_≠(v1_:Value).ownBlock) v0_ r1∧Kd.R (Kd.int .i64) 3 w' w.heap.size (fun k_=>some k_≠(v0_:Value).ownBlock) v1_ r2∧Below w.heap.size w w':=by
 have hu26:=Try.underlying26;have hu67:=Try.underlying67;have HR0:=Aside0.mk hr0;have HC0:=Aside0.mk hc0;clear hr0 hc0;have HB:=Aside0.mk (Below.refl w.heap.size w);have H:((Q0.f k l0 0 0 10).bind fun bt506=>(some (bt506.1,bt506.2.1,bt506.2.2.1)))=some (r1,r2,r3):=h;clear h;replace H:=Option.bind_eq_some_iff.mp H;obtain ⟨⟨t506,t509,t512,t513,t514⟩,A20,H⟩:=H;replace H:(some (t506,t509,t512))=some (r1,r2,r3):=H;have A2:=Aside0.mk A20;clear A20;simp only [Option.some.injEq,Prod.mk.injEq] at H;obtain ⟨rfl,rfl,rfl⟩:=H;go_enter Try.func73,Try.ntmps73;go_wp2_with (first|((with_reducible refine Qbb (N:=2) rfl ?_);refine Qbg ?hg (N:=2) ?hd (cs:= #[.slice none 0 0]) (t:=26) ?hr ?_;(case hd=>rfl);(case hg=>rfl);(case hr=>first|(go_simp;done)|(go_simp;rfl));intro gb504 hg w3 hbox hb;have BK504:=Aside0.mk (hbox);have GW504:=Aside0.mk ((by rw [hg];exact (Qq (by repeat (first|(with_reducible first|exact HB.out|apply Qc|apply Qa|apply Qd)|exact HB.out))):w.heap.size≤gb504));have GE504:=GW504;replace HB:=Aside0.mk (Qj (by repeat (first|(with_reducible first|exact HB.out|apply Qc|apply Qa|apply Qd)|exact HB.out)) hb);clear hb hbox hg)|((with_reducible refine Qbb (N:=8) rfl ?_);refine Qbg ?hg (N:=8) ?hd (cs:= #[.slice A0 l0.length c0, .int .i64 0, .int .u64 0]) (t:=67) ?hr ?_;(case hd=>rfl);(case hg=>rfl);(case hr=>first|(go_simp;done)|(go_simp;rfl));intro gb505 hg w4 hbox hb;have HI505:=Aside0.mk ((⟨_,_,hbox,(by rw [hg];exact (Qq (by repeat (first|(with_reducible first|exact HB.out|apply Qc|apply Qa|apply Qd|refine Qe ?_ GE504.out)|exact HB.out))):w.heap.size≤gb505),HR0.out⟩:Qb w _ gb505 l0 0 0));have GW505:=Aside0.mk ((by rw [hg];exact (Qq (by repeat (first|(with_reducible first|exact HB.out|apply Qc|apply Qa|apply Qd|refine Qe ?_ GE504.out)|exact HB.out))):w.heap.size≤gb505));have GE505:=GW505;replace HB:=Aside0.mk (Qj (by repeat (first|(with_reducible first|exact HB.out|apply Qc|apply Qa|apply Qd|refine Qe ?_ GE504.out)|exact HB.out)) hb);have NB504_505:=Aside0.mk ((by rw [hg];exact Nat.ne_of_lt (Qcu (g:=gb504) (o:= .cells #[.slice none 0 0] 26 (0,0)) (by (with_reducible repeat (first|refine Qg ?_ _|refine Qh ?_|refine Qf ?_ _));exact BK504.out)):gb504≠gb505));have NB505_504:=Aside0.mk ((by rw [hg];exact Nat.ne_of_gt (Qcu (g:=gb504) (o:= .cells #[.slice none 0 0] 26 (0,0)) (by (with_reducible repeat (first|refine Qg ?_ _|refine Qh ?_|refine Qf ?_ _));exact BK504.out)):gb505≠gb504));replace BK504:=Aside0.mk (Qu (g:=gb504) (o:= .cells #[.slice none 0 0] 26 (0,0)) (by (with_reducible repeat (first|refine Qg ?_ _|refine Qh ?_|refine Qf ?_ _));exact BK504.out) hb);clear hb hbox hg)|((with_reducible refine Qk (f:=61) rfl ?_);refine Q6 (some 10) rfl rfl Try.func61 (by kernel_rfl) rfl #[.pointer (some ⟨gb505,0,none⟩), .int .i64 10] rfl (by (try simp only [List.map_toArray,List.map_cons,List.map_nil]);first|done|rfl|(simp only [List.length_drop,List.length_take];rfl)) ?_;(with_reducible refine (Q0.calls k gb505 l0 0 0 10 t506 t509 t512 t513 t514 w _ ?side1 ?side2 A2.out).mono ?_);(case side1=>repeat (first|(with_reducible first|exact HI505.out|apply Qb.alloc|apply Qb.drewN|apply Qb.drew|apply Qb.set_1|apply Qb.set_2|refine Qb.far ?_ NB505_504.out _)|exact HI505.out));(case side2=>repeat (first|(with_reducible first|exact HB.out|apply Qc|apply Qa|apply Qd|refine Qe ?_ (Qb.ge HI505.out)|refine Qe ?_ GE504.out)|exact HB.out));rintro e w5 ⟨v507,v510,rfl,ho0,ho1,hi,hb,hk⟩;refine ⟨_,rfl,?_⟩;replace BK504:=Aside0.mk (Qi.blk hk (g':=gb504) (o:= .cells #[.slice none 0 0] 26 (0,0)) (by (with_reducible repeat (first|refine Qg ?_ _|refine Qh ?_|refine Qf ?_ _));exact BK504.out) NB504_505.out (by simp));have HO508:=Aside0.mk (Kd.R_lower ho0 (Qq (by repeat (first|(with_reducible first|exact HB.out|apply Qc|apply Qa|apply Qd|refine Qe ?_ (Qb.ge HI505.out)|refine Qe ?_ GE504.out)|exact HB.out))));have HO511:=Aside0.mk (Kd.R_lower ho1 (Qq (by repeat (first|(with_reducible first|exact HB.out|apply Qc|apply Qa|apply Qd|refine Qe ?_ (Qb.ge HI505.out)|refine Qe ?_ GE504.out)|exact HB.out))));replace HB:=Aside0.mk (hb);replace HI505:=Aside0.mk (hi);(try clear hb);(try clear hb2);(try clear hk);(try clear hi);(try clear ho0);(try clear ho1);obtain ⟨Ao6,co6,eo6⟩:=Kd.R_slice HO508.out;subst eo6;have hnb7:=NB504_505.out;have hnc7:=NB505_504.out;have hcz8_0:w5.cell? ⟨gb504,0,none⟩=some (.slice none 0 0):=(Qx BK504.out 0).trans rfl;have hfz8_0:=Qp BK504.out 0))
 refine bodyPost_ret (Qds rfl _ _ gb504 26 #[.slice Ao6 t506.length co6] (0,0) _ rfl (by (with_reducible repeat (first|refine Qg ?_ _|refine Qh ?_|refine Qf ?_ _));refine Qcn (cs:= #[.slice none 0 0]) ?_ 0 _ rfl;(with_reducible repeat (first|refine Qg ?_ _|refine Qh ?_|refine Qf ?_ _));exact BK504.out) Try.underlying26 rfl (by kernel_rfl)) rfl ?_;exact ⟨_,_,by first|rfl|(simp [Qm,Ql] <;>rfl)|(simp [*,Qm,Ql] <;>rfl),by (with_reducible repeat (first|apply Kd.R_alloc|apply Kd.R_drewN|apply Kd.R_drew));exact Kd.R_mono (Kd.R_far (p:=⟨gb504,0,none⟩) (Kd.R_types HO508.out BK504.out (by decide)) (fun _ hk=>hk.2) (.slice Ao6 t506.length co6)) (fun _ hk=>hk.1),by (with_reducible repeat (first|apply Kd.R_alloc|apply Kd.R_drewN|apply Kd.R_drew));exact Kd.R_mono (Kd.R_far (p:=⟨gb504,0,none⟩) (Kd.R_types HO511.out BK504.out (by decide)) (fun _ hk=>hk.2) (.slice Ao6 t506.length co6)) (fun _ hk=>hk.1),by repeat (first|(with_reducible first|exact HB.out|apply Qc|apply Qa|apply Qd|refine Qe ?_ (Qb.ge HI505.out)|refine Qe ?_ GE504.out)|exact HB.out)⟩
def Qcd.f (k : Nat) (l0 : List Int) : Option (List Int × List Int × Int) := (Qc4.f k l0).bind fun bt516 => (some (bt516.1, bt516.2.1, bt516.2.2))
theorem Qcd.mono : ∀ a0 k, LeO (Qcd.f k a0) (Qcd.f (k + 1) a0) := by
 intro a0 k;unfold Qcd.f
 repeat' first
  |(with_reducible exact Qc4.mono _ _)
  |(with_reducible exact LeO.refl _)
  |(with_reducible exact LeO.none _)
  |(with_reducible refine LeO.ite ?_ ?_)
  |(with_reducible refine LeO.bind ?_ (fun _=> ?_))
  |exact Qc4.mono _ _
  |exact LeO.none _
  |refine LeO.ite ?_ ?_
  |refine LeO.bind ?_ (fun _=> ?_)
set_option maxHeartbeats 8000000 in
set_option maxRecDepth 100000 in
theorem Qcd.calls (k : Nat) (A0 : Option Addr) (c0 : Nat) (l0 : List Int) (r1 : List Int) (r2 : List Int) (r3 : Int) (w : World) (hr0 : Kd.C (Kd.int .u8) w A0 l0.length l0) (hc0 : l0.length ≤ c0) (h : Qcd.f k l0 = some (r1, r2, r3)) :
 Calls Try.prog 13 #[.slice A0 l0.length c0] w fun e w'=> ∃ v0_ v1_:Value,e= .returned (.tuple #[.agg #[v0_],v1_, .int .i64 r3])∧Kd.R (Kd.int .i64) 3 w' w.heap.size (fun k_=>some k_≠(v1_:Value).ownBlock) v0_ r1∧Kd.R (Kd.int .i64) 3 w' w.heap.size (fun k_=>some k_≠(v0_:Value).ownBlock) v1_ r2∧Below w.heap.size w w':=by
 have hu26:=Try.underlying26;have HR0:=Aside0.mk hr0;have HC0:=Aside0.mk hc0;clear hr0 hc0;have HB:=Aside0.mk (Below.refl w.heap.size w);have H:((Qc4.f k l0).bind fun bt516=>(some (bt516.1,bt516.2.1,bt516.2.2)))=some (r1,r2,r3):=h;clear h;replace H:=Option.bind_eq_some_iff.mp H;obtain ⟨⟨t516,t519,t522⟩,A20,H⟩:=H;replace H:(some (t516,t519,t522))=some (r1,r2,r3):=H;have A2:=Aside0.mk A20;clear A20;simp only [Option.some.injEq,Prod.mk.injEq] at H;obtain ⟨rfl,rfl,rfl⟩:=H;go_enter Try.func13,Try.ntmps13;go_wp2_with (first|((with_reducible refine Qbb (N:=2) rfl ?_);refine Qbg ?hg (N:=2) ?hd (cs:= #[.slice none 0 0]) (t:=26) ?hr ?_;(case hd=>rfl);(case hg=>rfl);(case hr=>first|(go_simp;done)|(go_simp;rfl));intro gb515 hg w3 hbox hb;have BK515:=Aside0.mk (hbox);have GW515:=Aside0.mk ((by rw [hg];exact (Qq (by repeat (first|(with_reducible first|exact HB.out|apply Qc|apply Qa|apply Qd)|exact HB.out))):w.heap.size≤gb515));have GE515:=GW515;replace HB:=Aside0.mk (Qj (by repeat (first|(with_reducible first|exact HB.out|apply Qc|apply Qa|apply Qd)|exact HB.out)) hb);clear hb hbox hg)|((with_reducible refine Qk (f:=73) rfl ?_);refine Q6 (some 6) rfl rfl Try.func73 (by kernel_rfl) rfl #[.slice A0 l0.length c0] rfl (by (try simp only [List.map_toArray,List.map_cons,List.map_nil]);first|done|rfl|(simp only [List.length_drop,List.length_take];rfl)) ?_;(with_reducible refine (Qc4.calls k _ _ l0 t516 t519 t522 _ ?side1 ?side2 A2.out).mono ?_);(case side1=>repeat (first|exact (Kd.C_below HR0.out HB.out)|(with_reducible refine Kd.C_alloc ?_ _)|(with_reducible refine Kd.C_drewN ?_ _)|(with_reducible refine Kd.C_drew ?_)));(case side2=>exact HC0.out);rintro e w4 ⟨v517,v520,rfl,ho0,ho1,hb⟩;refine ⟨_,rfl,?_⟩;have HO518:=Aside0.mk (Kd.R_lower ho0 (Qq (by repeat (first|(with_reducible first|exact HB.out|apply Qc|apply Qa|apply Qd|refine Qe ?_ GE515.out)|exact HB.out))));have HO521:=Aside0.mk (Kd.R_lower ho1 (Qq (by repeat (first|(with_reducible first|exact HB.out|apply Qc|apply Qa|apply Qd|refine Qe ?_ GE515.out)|exact HB.out))));replace BK515:=Aside0.mk (Qu (g:=gb515) (o:= .cells #[.slice none 0 0] 26 (0,0)) (by (with_reducible repeat (first|refine Qg ?_ _|refine Qh ?_|refine Qf ?_ _));exact BK515.out) hb);replace HB:=Aside0.mk (Qj (by repeat (first|(with_reducible first|exact HB.out|apply Qc|apply Qa|apply Qd|refine Qe ?_ GE515.out)|exact HB.out)) hb);(try clear hb);(try clear hb2);(try clear hk);(try clear hi);(try clear ho0);(try clear ho1);obtain ⟨Ao5,co5,eo5⟩:=Kd.R_slice HO518.out;subst eo5;have hcz6_0:w4.cell? ⟨gb515,0,none⟩=some (.slice none 0 0):=(Qx BK515.out 0).trans rfl;have hfz6_0:=Qp BK515.out 0));refine bodyPost_ret (Qds rfl _ _ gb515 26 #[.slice Ao5 t516.length co5] (0,0) _ rfl (by (with_reducible repeat (first|refine Qg ?_ _|refine Qh ?_|refine Qf ?_ _));refine Qcn (cs:= #[.slice none 0 0]) ?_ 0 _ rfl;(with_reducible repeat (first|refine Qg ?_ _|refine Qh ?_|refine Qf ?_ _));exact BK515.out) Try.underlying26 rfl (by kernel_rfl)) rfl ?_;exact ⟨_,_,by first|rfl|(simp [Qm,Ql] <;>rfl)|(simp [*,Qm,Ql] <;>rfl),by (with_reducible repeat (first|apply Kd.R_alloc|apply Kd.R_drewN|apply Kd.R_drew));exact Kd.R_mono (Kd.R_far (p:=⟨gb515,0,none⟩) (Kd.R_types HO518.out BK515.out (by decide)) (fun _ hk=>hk.2) (.slice Ao5 t516.length co5)) (fun _ hk=>hk.1),by (with_reducible repeat (first|apply Kd.R_alloc|apply Kd.R_drewN|apply Kd.R_drew));exact Kd.R_mono (Kd.R_far (p:=⟨gb515,0,none⟩) (Kd.R_types HO521.out BK515.out (by decide)) (fun _ hk=>hk.2) (.slice Ao5 t516.length co5)) (fun _ hk=>hk.1),by repeat (first|(with_reducible first|exact HB.out|apply Qc|apply Qa|apply Qd|refine Qe ?_ GE515.out)|exact HB.out)⟩
def Qcg.l0 : Nat → Int → List Int → List Int → Int → Int → Option (List Int)
 |0,_,_,_,_,_=>none
 |k+1,x1,x5,x10,x11,x12=>if x12<x11 then (if 0≤x12 then (if x12<(x10.length:Int) then (if x5.length<17592186044416 then (Qcg.l0 k x1 (x5++ [wrap64 (x1 - (rd x10 x12))]) x10 x11 (wrap64 (x12+1))) else (none)) else (none)) else (none)) else (some x5)
def Qcg.f (k : Nat) (l0 : List Int) (a1 : Int) : Option (List Int) := (Qb6.f k l0).bind fun t526 => (Qcg.l0 k a1 (([] : List Int)) t526 (t526.length : Int) 0)
theorem Qcg.mono_l : ∀ k, (∀ y0 y1 y2 y3 y4, LeO (Qcg.l0 k y0 y1 y2 y3 y4) (Qcg.l0 (k + 1) y0 y1 y2 y3 y4))
 |0=>fun _ _ _ _ _ r h=>by simp [Qcg.l0] at h
 |k+1=>by
  have ih0:=Qcg.mono_l k
  ·
   intro y0 y1 y2 y3 y4;unfold Qcg.l0
   repeat' first
   |(with_reducible exact ih0 _ _ _ _ _)
   |(with_reducible exact Qb6.mono _ _)
   |(with_reducible exact LeO.refl _)
   |(with_reducible exact LeO.none _)
   |(with_reducible refine LeO.ite ?_ ?_)
   |(with_reducible refine LeO.bind ?_ (fun _=> ?_))
   |exact ih0 _ _ _ _ _
   |exact Qb6.mono _ _
   |exact LeO.none _
   |refine LeO.ite ?_ ?_
   |refine LeO.bind ?_ (fun _=> ?_)
theorem Qcg.mono : ∀ a0 a1 k, LeO (Qcg.f k a0 a1) (Qcg.f (k + 1) a0 a1) := by
 intro a0 a1 k;have ih0:=Qcg.mono_l k;unfold Qcg.f
 repeat' first
  |(with_reducible exact ih0 _ _ _ _ _)
  |(with_reducible exact Qb6.mono _ _)
  |(with_reducible exact LeO.refl _)
  |(with_reducible exact LeO.none _)
  |(with_reducible refine LeO.ite ?_ ?_)
  |(with_reducible refine LeO.bind ?_ (fun _=> ?_))
  |exact ih0 _ _ _ _ _
  |exact Qb6.mono _ _
  |exact LeO.none _
  |refine LeO.ite ?_ ?_
  |refine LeO.bind ?_ (fun _=> ?_)
set_option maxHeartbeats 8000000 in
set_option maxRecDepth 100000 in
theorem Qcg.calls (k : Nat) (A0 : Option Addr) (c0 : Nat) (l0 : List Int) (a1 : Int) (r : List Int) (w : World) (hr0 : Kd.C (Kd.int .i64) w A0 l0.length l0) (hc0 : l0.length ≤ c0) (h : Qcg.f k l0 a1 = some r) :
 Calls Try.prog 74 #[.slice A0 l0.length c0, .int .i64 a1] w fun e w'=> ∃ v0_:Value,e= .returned (v0_)∧Kd.R (Kd.int .i64) 3 w' w.heap.size (fun _=>True) v0_ r∧Below w.heap.size w w':=by
 have HR0:=Aside0.mk hr0;have HC0:=Aside0.mk hc0;clear hr0 hc0;have HB:=Aside0.mk (Below.refl w.heap.size w);have H:((Qb6.f k l0).bind fun t526=>(Qcg.l0 k a1 (([] :List Int)) t526 (t526.length:Int) 0))=some r:=h;clear h;obtain ⟨y523,hy523⟩: ∃ y_:List Int,y_=(([] :List Int)):=⟨_,rfl⟩
 replace H:((Qb6.f k l0).bind fun t526=>(Qcg.l0 k a1 y523 t526 (t526.length:Int) 0))=some r:=by first|(rw [hy523];with_reducible exact H)|(have H2_:=(Option.bind_some _ _).symm.trans H;rw [hy523];with_reducible exact H2_)|(have H2_:=(Option.bind_some _ _).symm.trans H;with_reducible exact H2_)|with_reducible exact H|(rw [hy523];exact H)|exact H
 have Ny523:=Aside0.mk hy523;clear hy523;replace H:=Option.bind_eq_some_iff.mp H;obtain ⟨t526,A30,H⟩:=H;replace H:(Qcg.l0 k a1 y523 t526 (t526.length:Int) 0)=some r:=H;have A3:=Aside0.mk A30;clear A30;have H':=Aside0.mk H;clear H;go_enter Try.func74,Try.ntmps74;go_wp2_with (first|((with_reducible refine Qbb (N:=8) rfl ?_);refine Kd.R_lit (Kd.int .i64) _ 3 ?hg (N:=8) ?hd (xs:=([] :List Int)) (inner:= []) (ok:=fun _=>True) (okp:=fun _=>True) ?hr ?hp (fun _ hk=>hk) trivial (Below.refl _ _) (Nat.le_refl _) (by simp) ?_;(case hd=>rfl);(case hg=>rfl);(case hr=>first|(go_simp;done)|(go_simp;rfl));(case hp=>exact (Reps.none _ _));intro v524 w4 ho5 hb hg_ hnew_;clear hg_ hnew_;(first|rw [←Ny523.out] at ho5|(simp only [Int.reduceToNat] at ho5;rw [←Ny523.out] at ho5));have HO525:=Aside0.mk (Kd.R_lower ho5 (Qq (by repeat (first|(with_reducible first|exact HB.out|apply Qc|apply Qa|apply Qd)|exact HB.out))));replace HB:=Aside0.mk (Qj (by repeat (first|(with_reducible first|exact HB.out|apply Qc|apply Qa|apply Qd)|exact HB.out)) hb);clear hb ho5)|((with_reducible refine Qk (f:=63) rfl ?_);refine Q6 (some 10) rfl rfl Try.func63 (by kernel_rfl) rfl #[.slice A0 l0.length c0] rfl (by (try simp only [List.map_toArray,List.map_cons,List.map_nil]);first|done|rfl|(simp only [List.length_drop,List.length_take];rfl)) ?_;(with_reducible refine (Qb6.calls k _ _ l0 t526 _ ?side1 ?side2 A3.out).mono ?_);(case side1=>repeat (first|exact (Kd.C_below HR0.out HB.out)|(with_reducible refine Kd.C_alloc ?_ _)|(with_reducible refine Kd.C_drewN ?_ _)|(with_reducible refine Kd.C_drew ?_)));(case side2=>exact HC0.out);rintro e w6 ⟨v527,rfl,ho0,hb⟩;refine ⟨_,rfl,?_⟩;have HO528:=Aside0.mk (Kd.R_lower (Kd.R_new' ho0 (Kd.R_lt (by (with_reducible repeat (first|apply Kd.R_alloc|apply Kd.R_drewN|apply Kd.R_drew));exact HO525.out))) (Qq (by repeat (first|(with_reducible first|exact HB.out|apply Qc|apply Qa|apply Qd)|exact HB.out))));replace HO525:=Aside0.mk (Kd.R_elder' (by (with_reducible repeat (first|apply Kd.R_alloc|apply Kd.R_drewN|apply Kd.R_drew));exact HO525.out) (Kd.R_base ho0) hb);replace HB:=Aside0.mk (Qj (by repeat (first|(with_reducible first|exact HB.out|apply Qc|apply Qa|apply Qd)|exact HB.out)) hb);(try clear hb);(try clear hb2);(try clear hk);(try clear hi);(try clear ho0);obtain ⟨Ao7,co7,eo7⟩:=Kd.R_slice HO528.out;subst eo7))
 go_loopg [5,12] k (fun kq v5 v12 w'=> ∃ (x5_1:List Int) (x12_1:Int),v12= .int .i64 x12_1∧Aside0 (Qcg.l0 kq a1 x5_1 t526 (t526.length:Int) x12_1=some r)∧Aside0 (kq≤k)∧Aside0 (Kd.R (Kd.int .i64) 3 w' w.heap.size (fun k_=>some k_≠((.slice Ao7 t526.length co7):Value).ownBlock) v5 x5_1)∧Aside0 (Kd.R (Kd.int .i64) 3 w' w.heap.size (fun k_=>some k_≠(v5:Value).ownBlock) (.slice Ao7 t526.length co7) t526)∧Aside0 (Below w.heap.size w w'))
 case atStart=>exact ⟨(y523),(0),(by first|rfl|(simp;done)|(simp [*];done)),H',⟨Nat.le_refl _⟩,⟨by (with_reducible repeat (first|apply Kd.R_alloc|apply Kd.R_drewN|apply Kd.R_drew));exact Kd.R_mono HO525.out (fun _ hk=>hk.2)⟩,⟨by (with_reducible repeat (first|apply Kd.R_alloc|apply Kd.R_drewN|apply Kd.R_drew));exact Kd.R_mono HO528.out (fun _ hk=>hk.2)⟩,⟨by repeat (first|(with_reducible first|exact HB.out|apply Qc|apply Qa|apply Qd)|exact HB.out)⟩⟩
 case round=>
  clear H'
  try clear p2
  try clear c6
  try clear c7
  obtain ⟨x5_1,x12_1,rfl,HA,HK1,HO_5,HO_10,HB⟩:=hrel;cases gk with
  |zero=>exact absurd HA.out (by simp [Qcg.l0])
  |succ k1=>
   have H:=HA.out;clear HA;simp only [Qcg.l0] at H
   by_cases c8:x12_1<(t526.length:Int)
   ·
    rw [if_pos c8] at H;have c8b0:decide (x12_1<(t526.length:Int))=true:=decide_eq_true c8;clear c8
    by_cases c9:0≤x12_1
    ·
     rw [if_pos c9] at H;have c9b0:decide (0≤x12_1)=true:=decide_eq_true c9;clear c9
     by_cases c10:x12_1<(t526.length:Int)
     ·
      rw [if_pos c10] at H;have c10b0:decide (x12_1<(t526.length:Int))=true:=decide_eq_true c10;clear c10
      by_cases c11:x5_1.length<17592186044416
      ·
       rw [if_pos c11] at H;have LMc11:=Aside0.mk c11;clear c11;obtain ⟨y530,hy530⟩: ∃ y_:List Int,y_=(x5_1++ [wrap64 (a1 - (rd t526 x12_1))]):=⟨_,rfl⟩
       replace H:(Qcg.l0 k1 a1 y530 t526 (t526.length:Int) (wrap64 (x12_1+1)))=some r:=by first|(rw [hy530];with_reducible exact H)|(have H2_:=(Option.bind_some _ _).symm.trans H;rw [hy530];with_reducible exact H2_)|(have H2_:=(Option.bind_some _ _).symm.trans H;with_reducible exact H2_)|with_reducible exact H|(rw [hy530];exact H)|exact H
       have Ny530:=Aside0.mk hy530;clear hy530;have H':=Aside0.mk H;clear H;have p529:0≤(x12_1:Int):=of_decide_eq_true (by first|(with_reducible assumption)|assumption);have q529:x12_1<(t526.length:Int):=of_decide_eq_true (by first|(with_reducible assumption)|assumption);obtain ⟨ad529,e529,hx529_0⟩:=Kd.at_int (Kd.R_reads' HO_10.out).2.2 x12_1 p529 q529;cases e529;replace p529:=eq_true p529;replace q529:=eq_true q529;go_wp2_with (first|((with_reducible refine Qcv (b:= .append) (xs:= #[.tmp 16, .tmp 20]) rfl ?_);at_builtin;refine Kd.R_append (Kd.int .i64) (w0:=w) w.heap.size rfl (.tmp 16) (.tmp 20) 24 3 (.int .i64 0) 8 rfl Try.underlying24 Qec rfl (by decide) (by omega) u5 x5_1 (wrap64 (a1 - (rd t526 x12_1))) [.int .i64 (wrap64 (a1 - (rd t526 x12_1)))] (fun k_=>some k_≠(.slice (some ad529) t526.length co7:Value).ownBlock) (fun _=>False) rfl rfl ?aP (fun _ hk=>hk.elim) ?aF ?aO ?aB ?aS ?aL ?_;(case aP=>exact rfl);(case aB=>exact (by repeat (first|(with_reducible first|exact HB.out|apply Qc|apply Qa|apply Qd)|exact HB.out)));(case aF=>exact (fun k_ hk=>Kd.fresh' (Kd.R_lt (by (with_reducible repeat (first|apply Kd.R_alloc|apply Kd.R_drewN|apply Kd.R_drew));exact HO_10.out)) k_ hk));(case aO=>exact (by (with_reducible repeat (first|apply Kd.R_alloc|apply Kd.R_drewN|apply Kd.R_drew));exact HO_5.out));(case aS=>exact (Qq (by repeat (first|(with_reducible first|exact HB.out|apply Qc|apply Qa|apply Qd)|exact HB.out))));(case aL=>have:=LMc11.out;omega);intro v531 w12 ho hb hg hat;rw [←Ny530.out] at ho;replace HO_10:=Aside0.mk (Kd.R_after (ok:=(fun _=>True)) (by (with_reducible repeat (first|apply Kd.R_alloc|apply Kd.R_drewN|apply Kd.R_drew));exact Kd.R_mono HO_10.out (fun _ hk=>⟨trivial,hk⟩)) hg hat);replace HB:=Aside0.mk (hb);have HO532:=Aside0.mk (ho);clear HO_5;clear ho hb hg hat));go_roundg k1
       case measure=>have:=HK1.out;omega
       case rel=>exact ⟨(y530),(wrap64 (x12_1+1)),(by first|rfl|(simp;done)|(simp [*];done)),H',⟨by have:=HK1.out;omega⟩,⟨by (with_reducible repeat (first|apply Kd.R_alloc|apply Kd.R_drewN|apply Kd.R_drew));exact HO532.out⟩,⟨by (with_reducible repeat (first|apply Kd.R_alloc|apply Kd.R_drewN|apply Kd.R_drew));exact Kd.R_mono HO_10.out (fun _ hk=>hk.2)⟩,⟨by repeat (first|(with_reducible first|exact HB.out|apply Qc|apply Qa|apply Qd)|exact HB.out)⟩⟩
      ·
       rw [if_neg c11] at H;exact absurd H (by simp)
     ·
      rw [if_neg c10] at H;exact absurd H (by simp)
    ·
     rw [if_neg c9] at H;exact absurd H (by simp)
   ·
    rw [if_neg c8] at H;have c8b0:decide (x12_1<(t526.length:Int))=false:=decide_eq_false c8;clear c8;obtain rfl:=Option.some.inj H;go_wp2
    go_ret
    exact ⟨_,by first|rfl|(simp [Qm,Ql] <;>rfl)|(simp [*,Qm,Ql] <;>rfl),by (with_reducible repeat (first|apply Kd.R_alloc|apply Kd.R_drewN|apply Kd.R_drew));exact Kd.R_mono HO_5.out (fun _ hk=>trivial),by repeat (first|(with_reducible first|exact HB.out|apply Qc|apply Qa|apply Qd)|exact HB.out)⟩
def Qby.f (k : Nat) (l0_0 : List Int) (l1 : List Int) (a2 : Int) : Option (List Int × Bool) := (Qb9.f k l0_0 l1 a2).bind fun t534 => (if t534 = true then ((Qcg.f k l1 a2).bind fun t535 => (some (t535, true))) else (some (([] : List Int), false)))
theorem Qby.mono : ∀ a0 a1 a2 k, LeO (Qby.f k a0 a1 a2) (Qby.f (k + 1) a0 a1 a2) := by
 intro a0 a1 a2 k;unfold Qby.f
 repeat' first
  |(with_reducible exact Qb9.mono _ _ _ _)
  |(with_reducible exact Qcg.mono _ _ _)
  |(with_reducible exact LeO.refl _)
  |(with_reducible exact LeO.none _)
  |(with_reducible refine LeO.ite ?_ ?_)
  |(with_reducible refine LeO.bind ?_ (fun _=> ?_))
  |exact Qb9.mono _ _ _ _
  |exact Qcg.mono _ _ _
  |exact LeO.none _
  |refine LeO.ite ?_ ?_
  |refine LeO.bind ?_ (fun _=> ?_)
set_option maxHeartbeats 8000000 in
set_option maxRecDepth 100000 in
theorem Qby.calls (k : Nat) (A0_0 : Option Addr) (c0_0 : Nat) (l0_0 : List Int) (A1 : Option Addr) (c1 : Nat) (l1 : List Int) (a2 : Int) (r1 : List Int) (r2 : Bool) (w : World) (hr0_0 : Kd.C (Kd.int .i64) w A0_0 l0_0.length l0_0) (hc0_0 : l0_0.length ≤ c0_0) (hr1 : Kd.C (Kd.int .i64) w A1 l1.length l1) (hc1 : l1.length ≤ c1) (h : Qby.f k l0_0 l1 a2 = some (r1, r2)) :
 Calls Try.prog 14 #[.agg #[.slice A0_0 l0_0.length c0_0], .slice A1 l1.length c1, .int .i64 a2] w fun e w'=> ∃ v0_:Value,e= .returned (.tuple #[v0_, .bool r2])∧Kd.R (Kd.int .i64) 3 w' w.heap.size (fun _=>True) v0_ r1∧Below w.heap.size w w':=by
 have hu26:=Try.underlying26;have HR0_0:=Aside0.mk hr0_0;have HC0_0:=Aside0.mk hc0_0;clear hr0_0 hc0_0;have HR1:=Aside0.mk hr1;have HC1:=Aside0.mk hc1;clear hr1 hc1;have HB:=Aside0.mk (Below.refl w.heap.size w);have H:((Qb9.f k l0_0 l1 a2).bind fun t534=>(if t534=true then ((Qcg.f k l1 a2).bind fun t535=>(some (t535,true))) else (some (([] :List Int),false))))=some (r1,r2):=h;clear h;replace H:=Option.bind_eq_some_iff.mp H;obtain ⟨t534,A40,H⟩:=H;replace H:(if t534=true then ((Qcg.f k l1 a2).bind fun t535=>(some (t535,true))) else (some (([] :List Int),false)))=some (r1,r2):=H;have A4:=Aside0.mk A40;clear A40
 by_cases c5:t534=true
 ·
  subst c5;have H1:((Qcg.f k l1 a2).bind fun t535=>(some (t535,true)))=some (r1,r2):=by rw [if_pos rfl] at H;exact H
  clear H;have H:=H1;clear H1;replace H:=Option.bind_eq_some_iff.mp H;obtain ⟨t535,A60,H⟩:=H;replace H:(some (t535,true))=some (r1,r2):=H;have A6:=Aside0.mk A60;clear A60;simp only [Option.some.injEq,Prod.mk.injEq] at H;obtain ⟨rfl,rfl⟩:=H;go_enter Try.func14,Try.ntmps14;go_wp2_with (first|((with_reducible refine Qbb (N:=3) rfl ?_);refine Qbg ?hg (N:=3) ?hd (cs:= #[.slice A0_0 l0_0.length c0_0]) (t:=26) ?hr ?_;(case hd=>rfl);(case hg=>rfl);(case hr=>first|(go_simp;done)|(go_simp;rfl));intro gb533 hg w7 hbox hb;have BK533:=Aside0.mk (hbox);have GW533:=Aside0.mk ((by rw [hg];exact (Qq (by repeat (first|(with_reducible first|exact HB.out|apply Qc|apply Qa|apply Qd)|exact HB.out))):w.heap.size≤gb533));have GE533:=GW533;replace HB:=Aside0.mk (Qj (by repeat (first|(with_reducible first|exact HB.out|apply Qc|apply Qa|apply Qd)|exact HB.out)) hb);clear hb hbox hg;have hcz8_0:w7.cell? ⟨gb533,0,none⟩=some (.slice A0_0 l0_0.length c0_0):=(Qx BK533.out 0).trans rfl;have hfz8_0:=Qp BK533.out 0)|((with_reducible refine Qk (f:=62) rfl ?_);refine Q6 (some 11) rfl rfl Try.func62 (by kernel_rfl) rfl #[.agg #[.slice A0_0 l0_0.length c0_0], .slice A1 l1.length c1, .int .i64 a2] rfl (by (try simp only [List.map_toArray,List.map_cons,List.map_nil]);first|done|rfl|(simp only [List.length_drop,List.length_take];rfl)) ?_;(with_reducible refine (Qb9.calls k _ _ l0_0 _ _ l1 a2 true _ ?side1 ?side2 ?side3 ?side4 A4.out).mono ?_);(case side1=>repeat (first|exact (Kd.C_below HR0_0.out HB.out)|(with_reducible refine Kd.C_alloc ?_ _)|(with_reducible refine Kd.C_drewN ?_ _)|(with_reducible refine Kd.C_drew ?_)));(case side2=>exact HC0_0.out);(case side3=>repeat (first|exact (Kd.C_below HR1.out HB.out)|(with_reducible refine Kd.C_alloc ?_ _)|(with_reducible refine Kd.C_drewN ?_ _)|(with_reducible refine Kd.C_drew ?_)));(case side4=>exact HC1.out);rintro e w9 ⟨rfl,hb⟩;refine ⟨_,rfl,?_⟩;replace BK533:=Aside0.mk (Qu (g:=gb533) (o:= .cells #[.slice A0_0 l0_0.length c0_0] 26 (0,0)) (by (with_reducible repeat (first|refine Qg ?_ _|refine Qh ?_|refine Qf ?_ _));exact BK533.out) hb);replace HB:=Aside0.mk (Qj (by repeat (first|(with_reducible first|exact HB.out|apply Qc|apply Qa|apply Qd|refine Qe ?_ GE533.out)|exact HB.out)) hb);(try clear hb);(try clear hb2);(try clear hk);(try clear hi))|((with_reducible refine Qk (f:=74) rfl ?_);refine Q6 (some 15) rfl rfl Try.func74 (by kernel_rfl) rfl #[.slice A1 l1.length c1, .int .i64 a2] rfl (by (try simp only [List.map_toArray,List.map_cons,List.map_nil]);first|done|rfl|(simp only [List.length_drop,List.length_take];rfl)) ?_;(with_reducible refine (Qcg.calls k _ _ l1 a2 t535 _ ?side1 ?side2 A6.out).mono ?_);(case side1=>repeat (first|exact (Kd.C_below HR1.out HB.out)|(with_reducible refine Kd.C_alloc ?_ _)|(with_reducible refine Kd.C_drewN ?_ _)|(with_reducible refine Kd.C_drew ?_)));(case side2=>exact HC1.out);rintro e w10 ⟨v536,rfl,ho0,hb⟩;refine ⟨_,rfl,?_⟩;have HO537:=Aside0.mk (Kd.R_lower ho0 (Qq (by repeat (first|(with_reducible first|exact HB.out|apply Qc|apply Qa|apply Qd|refine Qe ?_ GE533.out)|exact HB.out))));replace BK533:=Aside0.mk (Qu (g:=gb533) (o:= .cells #[.slice A0_0 l0_0.length c0_0] 26 (0,0)) (by (with_reducible repeat (first|refine Qg ?_ _|refine Qh ?_|refine Qf ?_ _));exact BK533.out) hb);replace HB:=Aside0.mk (Qj (by repeat (first|(with_reducible first|exact HB.out|apply Qc|apply Qa|apply Qd|refine Qe ?_ GE533.out)|exact HB.out)) hb);(try clear hb);(try clear hb2);(try clear hk);(try clear hi);(try clear ho0)))
  go_ret2
  exact ⟨_,by first|rfl|(simp [Qm,Ql] <;>rfl)|(simp [*,Qm,Ql] <;>rfl),by (with_reducible repeat (first|apply Kd.R_alloc|apply Kd.R_drewN|apply Kd.R_drew));exact HO537.out,by repeat (first|(with_reducible first|exact HB.out|apply Qc|apply Qa|apply Qd|refine Qe ?_ GE533.out)|exact HB.out)⟩
 ·
  replace c5:=Bool.eq_false_iff.mpr c5;subst c5;have H1:(some (([] :List Int),false))=some (r1,r2):=by rw [if_neg (show ¬ (false=true) by decide)] at H;exact H
  clear H;have H:=H1;clear H1;simp only [Option.some.injEq,Prod.mk.injEq] at H;obtain ⟨rfl,rfl⟩:=H;go_enter Try.func14,Try.ntmps14;go_wp2_with (first|((with_reducible refine Qbb (N:=3) rfl ?_);refine Qbg ?hg (N:=3) ?hd (cs:= #[.slice A0_0 l0_0.length c0_0]) (t:=26) ?hr ?_;(case hd=>rfl);(case hg=>rfl);(case hr=>first|(go_simp;done)|(go_simp;rfl));intro gb533 hg w11 hbox hb;have BK533:=Aside0.mk (hbox);have GW533:=Aside0.mk ((by rw [hg];exact (Qq (by repeat (first|(with_reducible first|exact HB.out|apply Qc|apply Qa|apply Qd)|exact HB.out))):w.heap.size≤gb533));have GE533:=GW533;replace HB:=Aside0.mk (Qj (by repeat (first|(with_reducible first|exact HB.out|apply Qc|apply Qa|apply Qd)|exact HB.out)) hb);clear hb hbox hg;have hcz12_0:w11.cell? ⟨gb533,0,none⟩=some (.slice A0_0 l0_0.length c0_0):=(Qx BK533.out 0).trans rfl;have hfz12_0:=Qp BK533.out 0)|((with_reducible refine Qk (f:=62) rfl ?_);refine Q6 (some 11) rfl rfl Try.func62 (by kernel_rfl) rfl #[.agg #[.slice A0_0 l0_0.length c0_0], .slice A1 l1.length c1, .int .i64 a2] rfl (by (try simp only [List.map_toArray,List.map_cons,List.map_nil]);first|done|rfl|(simp only [List.length_drop,List.length_take];rfl)) ?_;(with_reducible refine (Qb9.calls k _ _ l0_0 _ _ l1 a2 false _ ?side1 ?side2 ?side3 ?side4 A4.out).mono ?_);(case side1=>repeat (first|exact (Kd.C_below HR0_0.out HB.out)|(with_reducible refine Kd.C_alloc ?_ _)|(with_reducible refine Kd.C_drewN ?_ _)|(with_reducible refine Kd.C_drew ?_)));(case side2=>exact HC0_0.out);(case side3=>repeat (first|exact (Kd.C_below HR1.out HB.out)|(with_reducible refine Kd.C_alloc ?_ _)|(with_reducible refine Kd.C_drewN ?_ _)|(with_reducible refine Kd.C_drew ?_)));(case side4=>exact HC1.out);rintro e w13 ⟨rfl,hb⟩;refine ⟨_,rfl,?_⟩;replace BK533:=Aside0.mk (Qu (g:=gb533) (o:= .cells #[.slice A0_0 l0_0.length c0_0] 26 (0,0)) (by (with_reducible repeat (first|refine Qg ?_ _|refine Qh ?_|refine Qf ?_ _));exact BK533.out) hb);replace HB:=Aside0.mk (Qj (by repeat (first|(with_reducible first|exact HB.out|apply Qc|apply Qa|apply Qd|refine Qe ?_ GE533.out)|exact HB.out)) hb);(try clear hb);(try clear hb2);(try clear hk);(try clear hi)))
  go_ret2
  exact ⟨_,by first|rfl|(simp [Qm,Ql] <;>rfl)|(simp [*,Qm,Ql] <;>rfl),by first|exact Kd.R_nil _ _ _ _ _|exact Kd.N_nil _ _ _ _ _|exact Kd.V_nil _ _ _ _ _|exact Kd.Q_nil _ _ _ _ _|exact Kd.S_nil _ _ _ _ _,by repeat (first|(with_reducible first|exact HB.out|apply Qc|apply Qa|apply Qd|refine Qe ?_ GE533.out)|exact HB.out)⟩
def Qbp.l0 : Nat → List Int → Int → List Int → Int → Option (List Int × Bool)
 |0,_,_,_,_=>none
 |k+1,x1,x2,x8,x9=>if x9 ≥ 0 then (if 0≤x9 then (if x9<(x1.length:Int) then (if x8.length<17592186044416 then (Qbp.l0 k x1 x2 (x8++ [wrap64 (x2 - (rd x1 x9))]) (wrap64 (x9 - 1))) else (none)) else (none)) else (none)) else (some (x8,true))
def Qbp.f (k : Nat) (l0_0 : List Int) (l1 : List Int) (a2 : Int) : Option (List Int × Bool) := (Qcm.f k l0_0 l1 a2).bind fun t539 => (if t539 = true then (Qbp.l0 k l1 a2 ([] : List Int) (wrap64 ((l1.length : Int) - 1))) else (some (([] : List Int), false)))
theorem Qbp.mono_l : ∀ k, (∀ y0 y1 y2 y3, LeO (Qbp.l0 k y0 y1 y2 y3) (Qbp.l0 (k + 1) y0 y1 y2 y3))
 |0=>fun _ _ _ _ r h=>by simp [Qbp.l0] at h
 |k+1=>by
  have ih0:=Qbp.mono_l k
  ·
   intro y0 y1 y2 y3;unfold Qbp.l0
   repeat' first
   |(with_reducible exact ih0 _ _ _ _)
   |(with_reducible exact Qcm.mono _ _ _ _)
   |(with_reducible exact LeO.refl _)
   |(with_reducible exact LeO.none _)
   |(with_reducible refine LeO.ite ?_ ?_)
   |(with_reducible refine LeO.bind ?_ (fun _=> ?_))
   |exact ih0 _ _ _ _
   |exact Qcm.mono _ _ _ _
   |exact LeO.none _
   |refine LeO.ite ?_ ?_
   |refine LeO.bind ?_ (fun _=> ?_)
theorem Qbp.mono : ∀ a0 a1 a2 k, LeO (Qbp.f k a0 a1 a2) (Qbp.f (k + 1) a0 a1 a2) := by
 intro a0 a1 a2 k;have ih0:=Qbp.mono_l k;unfold Qbp.f
 repeat' first
  |(with_reducible exact ih0 _ _ _ _)
  |(with_reducible exact Qcm.mono _ _ _ _)
  |(with_reducible exact LeO.refl _)
  |(with_reducible exact LeO.none _)
  |(with_reducible refine LeO.ite ?_ ?_)
  |(with_reducible refine LeO.bind ?_ (fun _=> ?_))
  |exact ih0 _ _ _ _
  |exact Qcm.mono _ _ _ _
  |exact LeO.none _
  |refine LeO.ite ?_ ?_
  |refine LeO.bind ?_ (fun _=> ?_)
set_option maxHeartbeats 8000000 in
set_option maxRecDepth 100000 in
theorem Qbp.calls (k : Nat) (A0_0 : Option Addr) (c0_0 : Nat) (l0_0 : List Int) (A1 : Option Addr) (c1 : Nat) (l1 : List Int) (a2 : Int) (r1 : List Int) (r2 : Bool) (w : World) (hr0_0 : Kd.C (Kd.int .i64) w A0_0 l0_0.length l0_0) (hc0_0 : l0_0.length ≤ c0_0) (hr1 : Kd.C (Kd.int .i64) w A1 l1.length l1) (hc1 : l1.length ≤ c1) (h : Qbp.f k l0_0 l1 a2 = some (r1, r2)) :
 Calls Try.prog 15 #[.agg #[.slice A0_0 l0_0.length c0_0], .slice A1 l1.length c1, .int .i64 a2] w fun e w'=> ∃ v0_:Value,e= .returned (.tuple #[v0_, .bool r2])∧Kd.R (Kd.int .i64) 3 w' w.heap.size (fun _=>True) v0_ r1∧Below w.heap.size w w':=by
 have hu26:=Try.underlying26;have HR0_0:=Aside0.mk hr0_0;have HC0_0:=Aside0.mk hc0_0;clear hr0_0 hc0_0;have HR1:=Aside0.mk hr1;have HC1:=Aside0.mk hc1;clear hr1 hc1;have HB:=Aside0.mk (Below.refl w.heap.size w);have H:((Qcm.f k l0_0 l1 a2).bind fun t539=>(if t539=true then (Qbp.l0 k l1 a2 ([] :List Int) (wrap64 ((l1.length:Int) - 1))) else (some (([] :List Int),false))))=some (r1,r2):=h;clear h;replace H:=Option.bind_eq_some_iff.mp H;obtain ⟨t539,A40,H⟩:=H;replace H:(if t539=true then (Qbp.l0 k l1 a2 ([] :List Int) (wrap64 ((l1.length:Int) - 1))) else (some (([] :List Int),false)))=some (r1,r2):=H;have A4:=Aside0.mk A40;clear A40
 by_cases c5:t539=true
 ·
  subst c5;have H1:(Qbp.l0 k l1 a2 ([] :List Int) (wrap64 ((l1.length:Int) - 1)))=some (r1,r2):=by rw [if_pos rfl] at H;exact H
  clear H;have H:=H1;clear H1;have H':=Aside0.mk H;clear H;go_enter Try.func15,Try.ntmps15;go_wp2_with (first|((with_reducible refine Qbb (N:=3) rfl ?_);refine Qbg ?hg (N:=3) ?hd (cs:= #[.slice A0_0 l0_0.length c0_0]) (t:=26) ?hr ?_;(case hd=>rfl);(case hg=>rfl);(case hr=>first|(go_simp;done)|(go_simp;rfl));intro gb538 hg w6 hbox hb;have BK538:=Aside0.mk (hbox);have GW538:=Aside0.mk ((by rw [hg];exact (Qq (by repeat (first|(with_reducible first|exact HB.out|apply Qc|apply Qa|apply Qd)|exact HB.out))):w.heap.size≤gb538));have GE538:=GW538;replace HB:=Aside0.mk (Qj (by repeat (first|(with_reducible first|exact HB.out|apply Qc|apply Qa|apply Qd)|exact HB.out)) hb);clear hb hbox hg;have hcz7_0:w6.cell? ⟨gb538,0,none⟩=some (.slice A0_0 l0_0.length c0_0):=(Qx BK538.out 0).trans rfl;have hfz7_0:=Qp BK538.out 0)|((with_reducible refine Qk (f:=69) rfl ?_);refine Q6 (some 13) rfl rfl Try.func69 (by kernel_rfl) rfl #[.agg #[.slice A0_0 l0_0.length c0_0], .slice A1 l1.length c1, .int .i64 a2] rfl (by (try simp only [List.map_toArray,List.map_cons,List.map_nil]);first|done|rfl|(simp only [List.length_drop,List.length_take];rfl)) ?_;(with_reducible refine (Qcm.calls k _ _ l0_0 _ _ l1 a2 true _ ?side1 ?side2 ?side3 ?side4 A4.out).mono ?_);(case side1=>repeat (first|exact (Kd.C_below HR0_0.out HB.out)|(with_reducible refine Kd.C_alloc ?_ _)|(with_reducible refine Kd.C_drewN ?_ _)|(with_reducible refine Kd.C_drew ?_)));(case side2=>exact HC0_0.out);(case side3=>repeat (first|exact (Kd.C_below HR1.out HB.out)|(with_reducible refine Kd.C_alloc ?_ _)|(with_reducible refine Kd.C_drewN ?_ _)|(with_reducible refine Kd.C_drew ?_)));(case side4=>exact HC1.out);rintro e w8 ⟨rfl,hb⟩;refine ⟨_,rfl,?_⟩;replace BK538:=Aside0.mk (Qu (g:=gb538) (o:= .cells #[.slice A0_0 l0_0.length c0_0] 26 (0,0)) (by (with_reducible repeat (first|refine Qg ?_ _|refine Qh ?_|refine Qf ?_ _));exact BK538.out) hb);replace HB:=Aside0.mk (Qj (by repeat (first|(with_reducible first|exact HB.out|apply Qc|apply Qa|apply Qd|refine Qe ?_ GE538.out)|exact HB.out)) hb);(try clear hb);(try clear hb2);(try clear hk);(try clear hi)))
  go_loopg [8,9] k (fun kq v8 v9 w'=> ∃ (x8_1:List Int) (x9_1:Int),v9= .int .i64 x9_1∧Aside0 (Qbp.l0 kq l1 a2 x8_1 x9_1=some (r1,r2))∧Aside0 (kq≤k)∧Aside0 (Kd.R (Kd.int .i64) 3 w' w.heap.size (fun _=>True) v8 x8_1)∧Aside0 (w'.heap[gb538]? =some (.cells #[(.slice A0_0 l0_0.length c0_0)] 26 (0,0)))∧Aside0 (Below w.heap.size w w'))
  case atStart=>exact ⟨(([] :List Int)),(wrap64 ((l1.length:Int) - 1)),(by first|rfl|(simp;done)|(simp [*];done)),H',⟨Nat.le_refl _⟩,⟨by first|exact Kd.R_nil _ _ _ _ _|exact Kd.N_nil _ _ _ _ _|exact Kd.V_nil _ _ _ _ _|exact Kd.Q_nil _ _ _ _ _|exact Kd.S_nil _ _ _ _ _⟩,⟨by (with_reducible repeat (first|refine Qg ?_ _|refine Qh ?_|refine Qf ?_ _));exact BK538.out⟩,⟨by repeat (first|(with_reducible first|exact HB.out|apply Qc|apply Qa|apply Qd|refine Qe ?_ GE538.out)|exact HB.out)⟩⟩
  case round=>
   clear H'
   try clear c1
   try clear p2
   try clear c5
   try clear c6
   try clear p6
   try clear hcz7_0
   try clear hfz7_0
   obtain ⟨x8_1,x9_1,rfl,HA,HK1,HO_8,BK538,HB⟩:=hrel;cases gk with
   |zero=>exact absurd HA.out (by simp [Qbp.l0])
   |succ k1=>
    have H:=HA.out;clear HA;simp only [Qbp.l0] at H
    by_cases c9:x9_1 ≥ 0
    ·
     rw [if_pos c9] at H;have c9b0:decide (0≤x9_1)=true:=decide_eq_true c9;clear c9
     by_cases c10:0≤x9_1
     ·
      rw [if_pos c10] at H;have c10b0:decide (0≤x9_1)=true:=decide_eq_true c10;clear c10
      by_cases c11:x9_1<(l1.length:Int)
      ·
       rw [if_pos c11] at H;have c11b0:decide (x9_1<(l1.length:Int))=true:=decide_eq_true c11;clear c11
       by_cases c12:x8_1.length<17592186044416
       ·
        rw [if_pos c12] at H;have LMc12:=Aside0.mk c12;clear c12;obtain ⟨y541,hy541⟩: ∃ y_:List Int,y_=(x8_1++ [wrap64 (a2 - (rd l1 x9_1))]):=⟨_,rfl⟩
        replace H:(Qbp.l0 k1 l1 a2 y541 (wrap64 (x9_1 - 1)))=some (r1,r2):=by first|(rw [hy541];with_reducible exact H)|(have H2_:=(Option.bind_some _ _).symm.trans H;rw [hy541];with_reducible exact H2_)|(have H2_:=(Option.bind_some _ _).symm.trans H;with_reducible exact H2_)|with_reducible exact H|(rw [hy541];exact H)|exact H
        have Ny541:=Aside0.mk hy541;clear hy541;have H':=Aside0.mk H;clear H;have p540:0≤(x9_1:Int):=of_decide_eq_true (by first|(with_reducible assumption)|assumption);have q540:x9_1<(l1.length:Int):=of_decide_eq_true (by first|(with_reducible assumption)|assumption);obtain ⟨ad540,e540,hx540_0⟩:=Kd.at_int HR1.out x9_1 p540 q540;cases e540;replace hx540_0:=(HB.out.cell (World.block_lt_of_cell? w _ hx540_0)).trans hx540_0;replace p540:=eq_true p540;replace q540:=eq_true q540;go_wp2_with (first|((with_reducible refine Qcv (b:= .append) (xs:= #[.tmp 22, .tmp 29]) rfl ?_);at_builtin;refine Kd.R_append (Kd.int .i64) (w0:=w) w.heap.size rfl (.tmp 22) (.tmp 29) 24 3 (.int .i64 0) 8 rfl Try.underlying24 Qec rfl (by decide) (by omega) u8 x8_1 (wrap64 (a2 - (rd l1 x9_1))) [.int .i64 (wrap64 (a2 - (rd l1 x9_1)))] (fun _=>True) (fun _=>False) rfl rfl ?aP (fun _ hk=>hk.elim) ?aF ?aO ?aB ?aS ?aL ?_;(case aP=>exact rfl);(case aB=>exact (by repeat (first|(with_reducible first|exact HB.out|apply Qc|apply Qa|apply Qd|refine Qe ?_ GE538.out)|exact HB.out)));(case aF=>exact (fun _ _=>trivial));(case aO=>exact (by (with_reducible repeat (first|apply Kd.R_alloc|apply Kd.R_drewN|apply Kd.R_drew));exact HO_8.out));(case aS=>exact (Qq (by repeat (first|(with_reducible first|exact HB.out|apply Qc|apply Qa|apply Qd|refine Qe ?_ GE538.out)|exact HB.out))));(case aL=>have:=LMc12.out;omega);intro v542 w13 ho hb hg hat;rw [←Ny541.out] at ho;replace BK538:=Aside0.mk (Qcx (g:=gb538) (o:= .cells #[.slice A0_0 l0_0.length c0_0] 26 (0,0)) (by (with_reducible repeat (first|refine Qg ?_ _|refine Qh ?_|refine Qf ?_ _));exact BK538.out) hg (Kd.R_ne HO_8.out BK538.out (by decide)));replace HB:=Aside0.mk (hb);have HO543:=Aside0.mk (ho);clear HO_8;clear ho hb hg hat));go_roundg k1
        case measure=>have:=HK1.out;omega
        case rel=>exact ⟨(y541),(wrap64 (x9_1 - 1)),(by first|rfl|(simp;done)|(simp [*];done)),H',⟨by have:=HK1.out;omega⟩,⟨by (with_reducible repeat (first|apply Kd.R_alloc|apply Kd.R_drewN|apply Kd.R_drew));exact HO543.out⟩,⟨by (with_reducible repeat (first|refine Qg ?_ _|refine Qh ?_|refine Qf ?_ _));exact BK538.out⟩,⟨by repeat (first|(with_reducible first|exact HB.out|apply Qc|apply Qa|apply Qd|refine Qe ?_ GE538.out)|exact HB.out)⟩⟩
       ·
        rw [if_neg c12] at H;exact absurd H (by simp)
      ·
       rw [if_neg c11] at H;exact absurd H (by simp)
     ·
      rw [if_neg c10] at H;exact absurd H (by simp)
    ·
     rw [if_neg c9] at H;have c9b0:decide (0≤x9_1)=false:=decide_eq_false c9;clear c9;simp only [Option.some.injEq,Prod.mk.injEq] at H;obtain ⟨rfl,rfl⟩:=H;go_wp2
     go_ret2
     exact ⟨_,by first|rfl|(simp [Qm,Ql] <;>rfl)|(simp [*,Qm,Ql] <;>rfl),by (with_reducible repeat (first|apply Kd.R_alloc|apply Kd.R_drewN|apply Kd.R_drew));exact HO_8.out,by repeat (first|(with_reducible first|exact HB.out|apply Qc|apply Qa|apply Qd|refine Qe ?_ GE538.out)|exact HB.out)⟩
 ·
  replace c5:=Bool.eq_false_iff.mpr c5;subst c5;have H1:(some (([] :List Int),false))=some (r1,r2):=by rw [if_neg (show ¬ (false=true) by decide)] at H;exact H
  clear H;have H:=H1;clear H1;simp only [Option.some.injEq,Prod.mk.injEq] at H;obtain ⟨rfl,rfl⟩:=H;go_enter Try.func15,Try.ntmps15;go_wp2_with (first|((with_reducible refine Qbb (N:=3) rfl ?_);refine Qbg ?hg (N:=3) ?hd (cs:= #[.slice A0_0 l0_0.length c0_0]) (t:=26) ?hr ?_;(case hd=>rfl);(case hg=>rfl);(case hr=>first|(go_simp;done)|(go_simp;rfl));intro gb538 hg w14 hbox hb;have BK538:=Aside0.mk (hbox);have GW538:=Aside0.mk ((by rw [hg];exact (Qq (by repeat (first|(with_reducible first|exact HB.out|apply Qc|apply Qa|apply Qd)|exact HB.out))):w.heap.size≤gb538));have GE538:=GW538;replace HB:=Aside0.mk (Qj (by repeat (first|(with_reducible first|exact HB.out|apply Qc|apply Qa|apply Qd)|exact HB.out)) hb);clear hb hbox hg;have hcz15_0:w14.cell? ⟨gb538,0,none⟩=some (.slice A0_0 l0_0.length c0_0):=(Qx BK538.out 0).trans rfl;have hfz15_0:=Qp BK538.out 0)|((with_reducible refine Qk (f:=69) rfl ?_);refine Q6 (some 13) rfl rfl Try.func69 (by kernel_rfl) rfl #[.agg #[.slice A0_0 l0_0.length c0_0], .slice A1 l1.length c1, .int .i64 a2] rfl (by (try simp only [List.map_toArray,List.map_cons,List.map_nil]);first|done|rfl|(simp only [List.length_drop,List.length_take];rfl)) ?_;(with_reducible refine (Qcm.calls k _ _ l0_0 _ _ l1 a2 false _ ?side1 ?side2 ?side3 ?side4 A4.out).mono ?_);(case side1=>repeat (first|exact (Kd.C_below HR0_0.out HB.out)|(with_reducible refine Kd.C_alloc ?_ _)|(with_reducible refine Kd.C_drewN ?_ _)|(with_reducible refine Kd.C_drew ?_)));(case side2=>exact HC0_0.out);(case side3=>repeat (first|exact (Kd.C_below HR1.out HB.out)|(with_reducible refine Kd.C_alloc ?_ _)|(with_reducible refine Kd.C_drewN ?_ _)|(with_reducible refine Kd.C_drew ?_)));(case side4=>exact HC1.out);rintro e w16 ⟨rfl,hb⟩;refine ⟨_,rfl,?_⟩;replace BK538:=Aside0.mk (Qu (g:=gb538) (o:= .cells #[.slice A0_0 l0_0.length c0_0] 26 (0,0)) (by (with_reducible repeat (first|refine Qg ?_ _|refine Qh ?_|refine Qf ?_ _));exact BK538.out) hb);replace HB:=Aside0.mk (Qj (by repeat (first|(with_reducible first|exact HB.out|apply Qc|apply Qa|apply Qd|refine Qe ?_ GE538.out)|exact HB.out)) hb);(try clear hb);(try clear hb2);(try clear hk);(try clear hi)))
  go_ret2
  exact ⟨_,by first|rfl|(simp [Qm,Ql] <;>rfl)|(simp [*,Qm,Ql] <;>rfl),by first|exact Kd.R_nil _ _ _ _ _|exact Kd.N_nil _ _ _ _ _|exact Kd.V_nil _ _ _ _ _|exact Kd.Q_nil _ _ _ _ _|exact Kd.S_nil _ _ _ _ _,by repeat (first|(with_reducible first|exact HB.out|apply Qc|apply Qa|apply Qd|refine Qe ?_ GE538.out)|exact HB.out)⟩
class Fn2 where
 p:Int→Int→Option Bool
def Qfb.f [Fn2] (a0 : Int) (a1 : Int) : Option Bool := Fn2.p a0 a1
end Go.Proofs.Ytkgngggppcmpfaa.L
end
