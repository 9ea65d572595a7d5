/- Laws about the given program: the law FnSievesOfTableaux answers true for every input that its row lets in; no condition is added to the given statement. Contracts of the Go functions that it reaches, and the plain proof over lists. -/
import Derived.Laws.BitsLemmas
import Derived.WalkKit
import Derived.Test.YtkgngggppcmpfaaGreatWFnSievesOfTableaux0
import Derived.Test.YtkgngggppcmpfaaGreatKFnSievesOfTableaux0
import Derived.Test.YtkgngggppcmpfaaGreatKFnSievesOfTableaux1
import Derived.Test.YtkgngggppcmpfaaGreatKFnSievesOfTableaux2
import Derived.Test.YtkgngggppcmpfaaGreatKFnSievesOfTableaux3
import Derived.Test.YtkgngggppcmpfaaGreatKFnSievesOfTableaux4
import Derived.Test.YtkgngggppcmpfaaGreatKFnSievesOfTableaux5
import Derived.Test.YtkgngggppcmpfaaGreatKFnSievesOfTableaux6
import Derived.Test.YtkgngggppcmpfaaGreatKFnSievesOfTableaux7
import Derived.Test.YtkgngggppcmpfaaGreatKFnSievesOfTableaux8
section
namespace Go.Proofs.YtkgngggppcmpfaaGreat.L
open Go.RowKit Go.Proofs.YtkgngggppcmpfaaGreatW.PrintWords Go.Proofs.YtkgngggppcmpfaaGreatW.PrintLast Go.Proofs.YtkgngggppcmpfaaGreatW.PrintMore
attribute [local go_sem] Qy Q0 Qbb Qbc Qp Qq Qz Q1
set_option linter.unusedVariables false
set_option linter.unusedSimpArgs false
def Qc3.l0:Nat→Int→Int→Int→Option (Int)
 |0,_,_,_=>none
 |k+1,x0,x3,x4=>if x0>1 then (if x4=0 then (none) else (if (Int.tmod x0 x4)>0 then (Qc3.l0 k x0 x3 (wrap64 (x4+1))) else (if (Int.tmod (wrap64 (Int.tdiv x0 x4)) x4)=0 then (some 0) else (Qc3.l0 k (wrap64 (Int.tdiv x0 x4)) (wrap64 (-x3)) (wrap64 (x4+1)))))) else (some x3)
def Qc3.f (k:Nat) (a0:Int):Option (Int):=Qc3.l0 k a0 1 2
theorem Qc3.mono_l: ∀ k,(∀ y0 y1 y2,LeO (Qc3.l0 k y0 y1 y2) (Qc3.l0 (k+1) y0 y1 y2))
 |0=>fun _ _ _ r h=>by simp [Qc3.l0] at h
 |k+1=>by
  have ih0:=Qc3.mono_l k
  ·
   intro y0 y1 y2;unfold Qc3.l0
   repeat' first
   |(with_reducible exact ih0 _ _ _)
   |(with_reducible exact LeO.refl _)
   |(with_reducible exact LeO.none _)
   |(with_reducible refine LeO.ite ?_ ?_)
   |(with_reducible refine LeO.bind ?_ (fun _=> ?_))
   |exact ih0 _ _ _
   |exact LeO.none _
   |refine LeO.ite ?_ ?_
   |refine LeO.bind ?_ (fun _=> ?_)
theorem Qc3.mono: ∀ a0 k,LeO (Qc3.f k a0) (Qc3.f (k+1) a0):=by
 intro a0 k;have ih0:=Qc3.mono_l k;unfold Qc3.f
 repeat' (with_reducible first|apply ih0|exact LeO.refl _|exact LeO.none _|refine LeO.ite ?_ ?_|refine LeO.bind ?_ (fun _=> ?_))
set_option maxHeartbeats 8000000 in
set_option maxRecDepth 100000 in
theorem Qc3.calls (k:Nat) (a0:Int) (r:Int) (w:World) (h:Qc3.f k a0=some r):
 Calls Tryz.prog 305 #[.int .i64 a0] w fun e w'=>e= .returned (.int .i64 r)∧Drawn0 w w':=by
 have H:(Qc3.l0 k a0 1 2)=some r:=h;clear h;have H':=Zk H;clear H;go_enter Tryz.func305,Tryz.ntmps305;go_wp2
 go_loopg [0,3,4] k (fun kq v0 v3 v4 w'=> ∃ (x0_1:Int) (x3_1:Int) (x4_1:Int),v0= .int .i64 x0_1∧v3= .int .i64 x3_1∧v4= .int .i64 x4_1∧Z0 (Qc3.l0 kq x0_1 x3_1 x4_1=some r)∧Z0 (kq≤k)∧Drawn0 w w')
 case atStart=>exact ⟨(a0),(1),(2),(by first|rfl|(simp;done)|(simp [*];done)),(by first|rfl|(simp;done)|(simp [*];done)),(by first|rfl|(simp;done)|(simp [*];done)),H',⟨Nat.le_refl _⟩,by repeat (first|exact Drawn0.refl _|apply Drawn0.step)⟩
 case round=>
  clear H';obtain ⟨x0_1,x3_1,x4_1,rfl,rfl,rfl,HA,HK1,⟨m1,rfl⟩⟩:=hrel;cases gk with
  |zero=>exact absurd HA.out (by simp [Qc3.l0])
  |succ k1=>
   have H:=HA.out;clear HA;simp only [Qc3.l0] at H
   by_cases c2:x0_1>1
   ·
    rw [if_pos c2] at H;have c2b0:=decide_eq_true c2;clear c2
    by_cases c3:x4_1=0
    ·
     rw [if_pos c3] at H;exact absurd H (by simp)
    ·
     rw [if_neg c3] at H;have c3b0:(x4_1==0)=false:=beq_eq_false_iff_ne.mpr c3;have c3b1:(x4_1 !=0)=true:=bne_iff_ne.mpr c3
     by_cases c4:(Int.tmod x0_1 x4_1)>0
     ·
      rw [if_pos c4] at H;have c4b0:=decide_eq_true c4;clear c4;have H':=Zk H;clear H;go_wp2;go_roundg k1
      case measure=>have:=HK1.out;omega
      case rel=>exact ⟨(x0_1),(x3_1),(wrap64 (x4_1+1)),(by first|rfl|(simp;done)|(simp [*];done)),(by first|rfl|(simp;done)|(simp [*];done)),(by first|rfl|(simp;done)|(simp [*];done)),H',⟨by have:=HK1.out;omega⟩,by repeat (first|exact Drawn0.refl _|apply Drawn0.step)⟩
     ·
      rw [if_neg c4] at H;have c4b0:=decide_eq_false c4;clear c4
      by_cases c5:(Int.tmod (wrap64 (Int.tdiv x0_1 x4_1)) x4_1)=0
      ·
       rw [if_pos c5] at H;have c5b0:((Int.tmod (wrap64 (Int.tdiv x0_1 x4_1)) x4_1)==0)=true:=beq_iff_eq.mpr c5;have c5b1:((Int.tmod (wrap64 (Int.tdiv x0_1 x4_1)) x4_1) !=0)=false:=bne_eq_false_iff_eq.mpr c5;clear c5;obtain rfl:=Option.some.inj H;go_wp2
       go_ret
       exact ⟨by first|rfl|(simp;done)|(simp [*];done),by repeat (first|exact Drawn0.refl _|apply Drawn0.step)⟩
      ·
       rw [if_neg c5] at H;have c5b0:((Int.tmod (wrap64 (Int.tdiv x0_1 x4_1)) x4_1)==0)=false:=beq_eq_false_iff_ne.mpr c5;have c5b1:((Int.tmod (wrap64 (Int.tdiv x0_1 x4_1)) x4_1) !=0)=true:=bne_iff_ne.mpr c5;have H':=Zk H;clear H;go_wp2;go_roundg k1
       case measure=>have:=HK1.out;omega
       case rel=>exact ⟨(wrap64 (Int.tdiv x0_1 x4_1)),(wrap64 (-x3_1)),(wrap64 (x4_1+1)),(by first|rfl|(simp;done)|(simp [*];done)),(by first|rfl|(simp;done)|(simp [*];done)),(by first|rfl|(simp;done)|(simp [*];done)),H',⟨by have:=HK1.out;omega⟩,by repeat (first|exact Drawn0.refl _|apply Drawn0.step)⟩
   ·
    rw [if_neg c2] at H;have c2b0:=decide_eq_false c2;clear c2;obtain rfl:=Option.some.inj H;go_wp2
    go_ret
    exact ⟨by first|rfl|(simp;done)|(simp [*];done),by repeat (first|exact Drawn0.refl _|apply Drawn0.step)⟩
end Go.Proofs.YtkgngggppcmpfaaGreat.L
end
section
namespace Go.Proofs.YtkgngggppcmpfaaGreat.L
open Go.RowKit Go.Proofs.YtkgngggppcmpfaaGreatW.PrintWords Go.Proofs.YtkgngggppcmpfaaGreatW.PrintLast Go.Proofs.YtkgngggppcmpfaaGreatW.PrintMore Go.Proofs.YtkgngggppcmpfaaGreat.X
attribute [local go_sem] Qy Q0 Qbb Qbc Qp Qq Qz Q1
set_option linter.unusedVariables false
set_option linter.unusedSimpArgs false
def Qcl.l0:Nat→Int→Int→Int→Int→Option (Int)
 |0,_,_,_,_=>none
 |k+1,x0,x1,x5,x6=>if x6≤x0 then (if x6=0 then (none) else (if (Int.tmod x0 x6)=0 then (if (Int.tmod x1 x6)=0 then ((Qc3.f k (wrap64 (Int.tdiv x0 x6))).bind fun t839=>(Qcl.l0 k x0 x1 (wrap64 (x5+(wrap64 (x6*t839)))) (wrap64 (x6+1)))) else (Qcl.l0 k x0 x1 x5 (wrap64 (x6+1)))) else (Qcl.l0 k x0 x1 x5 (wrap64 (x6+1))))) else (some x5)
def Qcl.f (k:Nat) (a0:Int) (a1:Int):Option (Int):=Qcl.l0 k a0 a1 0 1
theorem Qcl.mono_l: ∀ k,(∀ y0 y1 y2 y3,LeO (Qcl.l0 k y0 y1 y2 y3) (Qcl.l0 (k+1) y0 y1 y2 y3))
 |0=>fun _ _ _ _ r h=>by simp [Qcl.l0] at h
 |k+1=>by
  have ih0:=Qcl.mono_l k
  ·
   intro y0 y1 y2 y3;unfold Qcl.l0
   repeat' first
   |(with_reducible exact ih0 _ _ _ _)
   |(with_reducible exact Qc3.mono _ _)
   |(with_reducible exact LeO.refl _)
   |(with_reducible exact LeO.none _)
   |(with_reducible refine LeO.ite ?_ ?_)
   |(with_reducible refine LeO.bind ?_ (fun _=> ?_))
   |exact ih0 _ _ _ _
   |exact Qc3.mono _ _
   |exact LeO.none _
   |refine LeO.ite ?_ ?_
   |refine LeO.bind ?_ (fun _=> ?_)
theorem Qcl.mono: ∀ a0 a1 k,LeO (Qcl.f k a0 a1) (Qcl.f (k+1) a0 a1):=by
 intro a0 a1 k;have ih0:=Qcl.mono_l k;unfold Qcl.f
 repeat' (with_reducible first|apply ih0|apply Qc3.mono|exact LeO.refl _|exact LeO.none _|refine LeO.ite ?_ ?_|refine LeO.bind ?_ (fun _=> ?_))
set_option maxHeartbeats 8000000 in
set_option maxRecDepth 100000 in
theorem Qcl.calls (k:Nat) (a0:Int) (a1:Int) (r:Int) (w:World) (h:Qcl.f k a0 a1=some r):
 Calls Tryz.prog 228 #[.int .i64 a0, .int .i64 a1] w fun e w'=>e= .returned (.int .i64 r)∧Drawn0 w w':=by
 have H:(Qcl.l0 k a0 a1 0 1)=some r:=h;clear h;have H':=Zk H;clear H;go_enter Tryz.func228,Tryz.ntmps228;go_wp2
 go_loopg [5,6] k (fun kq v5 v6 w'=> ∃ (x5_1:Int) (x6_1:Int),v5= .int .i64 x5_1∧v6= .int .i64 x6_1∧Z0 (Qcl.l0 kq a0 a1 x5_1 x6_1=some r)∧Z0 (kq≤k)∧Drawn0 w w')
 case atStart=>exact ⟨(0),(1),(by first|rfl|(simp;done)|(simp [*];done)),(by first|rfl|(simp;done)|(simp [*];done)),H',⟨Nat.le_refl _⟩,by repeat (first|exact Drawn0.refl _|apply Drawn0.step)⟩
 case round=>
  clear H'
  skip
  obtain ⟨x5_1,x6_1,rfl,rfl,HA,HK1,⟨m1,rfl⟩⟩:=hrel;cases gk with
  |zero=>exact absurd HA.out (by simp [Qcl.l0])
  |succ k1=>
   have H:=HA.out;clear HA;simp only [Qcl.l0] at H
   by_cases c3:x6_1≤a0
   ·
    rw [if_pos c3] at H;have c3b0:=decide_eq_true c3;clear c3
    by_cases c4:x6_1=0
    ·
     rw [if_pos c4] at H;exact absurd H (by simp)
    ·
     rw [if_neg c4] at H;have c4b0:(x6_1==0)=false:=beq_eq_false_iff_ne.mpr c4;have c4b1:(x6_1 !=0)=true:=bne_iff_ne.mpr c4
     by_cases c5:(Int.tmod a0 x6_1)=0
     ·
      rw [if_pos c5] at H;have c5b0:((Int.tmod a0 x6_1)==0)=true:=beq_iff_eq.mpr c5;have c5b1:((Int.tmod a0 x6_1) !=0)=false:=bne_eq_false_iff_eq.mpr c5;clear c5
      by_cases c6:(Int.tmod a1 x6_1)=0
      ·
       rw [if_pos c6] at H;have c6b0:((Int.tmod a1 x6_1)==0)=true:=beq_iff_eq.mpr c6;have c6b1:((Int.tmod a1 x6_1) !=0)=false:=bne_eq_false_iff_eq.mpr c6;clear c6;obtain ⟨t839,A7,H⟩:=bs H;(try dsimp only at H)
       have H':=Zk H;clear H;go_wp2_with (first|(refine gA (some 27) Tryz.func305 #[.int .i64 (wrap64 (Int.tdiv a0 x6_1))] ?_;(with_reducible refine (Qc3.calls k1 (wrap64 (Int.tdiv a0 x6_1)) t839 _ A7.out).mono ?_);rintro e w' ⟨rfl,⟨nd,rfl⟩⟩;refine ⟨_,rfl,?_⟩));go_roundg k1
       case measure=>have:=HK1.out;omega
       case rel=>exact ⟨(wrap64 (x5_1+(wrap64 (x6_1*t839)))),(wrap64 (x6_1+1)),(by first|rfl|(simp;done)|(simp [*];done)),(by first|rfl|(simp;done)|(simp [*];done)),H',⟨by have:=HK1.out;omega⟩,by repeat (first|exact Drawn0.refl _|apply Drawn0.step)⟩
      ·
       rw [if_neg c6] at H;have c6b0:((Int.tmod a1 x6_1)==0)=false:=beq_eq_false_iff_ne.mpr c6;have c6b1:((Int.tmod a1 x6_1) !=0)=true:=bne_iff_ne.mpr c6;have H':=Zk H;clear H;go_wp2;go_roundg k1
       case measure=>have:=HK1.out;omega
       case rel=>exact ⟨(x5_1),(wrap64 (x6_1+1)),(by first|rfl|(simp;done)|(simp [*];done)),(by first|rfl|(simp;done)|(simp [*];done)),H',⟨by have:=HK1.out;omega⟩,by repeat (first|exact Drawn0.refl _|apply Drawn0.step)⟩
     ·
      rw [if_neg c5] at H;have c5b0:((Int.tmod a0 x6_1)==0)=false:=beq_eq_false_iff_ne.mpr c5;have c5b1:((Int.tmod a0 x6_1) !=0)=true:=bne_iff_ne.mpr c5;have H':=Zk H;clear H;go_wp2;go_roundg k1
      case measure=>have:=HK1.out;omega
      case rel=>exact ⟨(x5_1),(wrap64 (x6_1+1)),(by first|rfl|(simp;done)|(simp [*];done)),(by first|rfl|(simp;done)|(simp [*];done)),H',⟨by have:=HK1.out;omega⟩,by repeat (first|exact Drawn0.refl _|apply Drawn0.step)⟩
   ·
    rw [if_neg c3] at H;have c3b0:=decide_eq_false c3;clear c3;obtain rfl:=Option.some.inj H;go_wp2
    go_ret
    exact ⟨by first|rfl|(simp;done)|(simp [*];done),by repeat (first|exact Drawn0.refl _|apply Drawn0.step)⟩
def Qeb.f (k:Nat) (a0:Int) (a1:Int):Option (Int × Bool):=(Qbz.f a0 1 60).bind fun t840=>(if t840=true then ((Qbz.f a1 0 60).bind fun t841=>(if t841=true then ((Qcl.f k a0 a1).bind fun t842=>(some (t842,true))) else (some (0,false)))) else (some (0,false)))
theorem Qeb.mono: ∀ a0 a1 k,LeO (Qeb.f k a0 a1) (Qeb.f (k+1) a0 a1):=by
 intro a0 a1 k;unfold Qeb.f
 repeat' (with_reducible first|apply Qcl.mono|exact LeO.refl _|exact LeO.none _|refine LeO.ite ?_ ?_|refine LeO.bind ?_ (fun _=> ?_))
set_option maxHeartbeats 8000000 in
set_option maxRecDepth 100000 in
theorem Qeb.calls (k:Nat) (a0:Int) (a1:Int) (r1:Int) (r2:Bool) (w:World) (h:Qeb.f k a0 a1=some (r1,r2)):
 Calls Tryz.prog 147 #[.int .i64 a0, .int .i64 a1] w fun e w'=>e= .returned (.tuple #[.int .i64 r1, .bool r2])∧Drawn0 w w':=by
 have H:((Qbz.f a0 1 60).bind fun t840=>(if t840=true then ((Qbz.f a1 0 60).bind fun t841=>(if t841=true then ((Qcl.f k a0 a1).bind fun t842=>(some (t842,true))) else (some (0,false)))) else (some (0,false))))=some (r1,r2):=h;clear h;obtain ⟨t840,A3,H⟩:=bs H;(try dsimp only at H)
 by_cases c4:t840=true
 ·
  subst c4;rw [if_pos rfl] at H;obtain ⟨t841,A5,H⟩:=bs H;(try dsimp only at H)
  by_cases c6:t841=true
  ·
   subst c6;rw [if_pos rfl] at H;obtain ⟨t842,A7,H⟩:=bs H;(try dsimp only at H)
   simp only [Option.some.injEq,Prod.mk.injEq] at H;obtain ⟨rfl,rfl⟩:=H;go_enter Tryz.func147,Tryz.ntmps147;go_wp2_with (first|(refine gA (some 7) Tryz.func192 #[.int .i64 a0, .int .i64 1, .int .i64 60] ?_;(with_reducible refine (Qbz.calls a0 1 60 true _ A3.out).mono ?_);rintro e w' ⟨rfl,⟨nd,rfl⟩⟩;refine ⟨_,rfl,?_⟩)|(go_at_call 192;(with_reducible refine (Qbz.calls a1 0 60 true _ A5.out).mono ?_);rintro e w' ⟨rfl,⟨nd,rfl⟩⟩)|(refine gA (some 16) Tryz.func228 #[.int .i64 a0, .int .i64 a1] ?_;(with_reducible refine (Qcl.calls k a0 a1 t842 _ A7.out).mono ?_);rintro e w' ⟨rfl,⟨nd,rfl⟩⟩;refine ⟨_,rfl,?_⟩))
   go_ret2
   exact ⟨by first|rfl|(simp;done)|(simp [*];done),by repeat (first|exact Drawn0.refl _|apply Drawn0.step)⟩
  ·
   replace c6:=Bool.eq_false_iff.mpr c6;subst c6;rw [if_neg (show ¬ (false=true) by decide)] at H;simp only [Option.some.injEq,Prod.mk.injEq] at H;obtain ⟨rfl,rfl⟩:=H;go_enter Tryz.func147,Tryz.ntmps147;go_wp2_with (first|(refine gA (some 7) Tryz.func192 #[.int .i64 a0, .int .i64 1, .int .i64 60] ?_;(with_reducible refine (Qbz.calls a0 1 60 true _ A3.out).mono ?_);rintro e w' ⟨rfl,⟨nd,rfl⟩⟩;refine ⟨_,rfl,?_⟩)|(go_at_call 192;(with_reducible refine (Qbz.calls a1 0 60 false _ A5.out).mono ?_);rintro e w' ⟨rfl,⟨nd,rfl⟩⟩))
   go_ret2
   exact ⟨by first|rfl|(simp;done)|(simp [*];done),by repeat (first|exact Drawn0.refl _|apply Drawn0.step)⟩
 ·
  replace c4:=Bool.eq_false_iff.mpr c4;subst c4;rw [if_neg (show ¬ (false=true) by decide)] at H;simp only [Option.some.injEq,Prod.mk.injEq] at H;obtain ⟨rfl,rfl⟩:=H;go_enter Tryz.func147,Tryz.ntmps147;go_wp2_with (first|(refine gA (some 7) Tryz.func192 #[.int .i64 a0, .int .i64 1, .int .i64 60] ?_;(with_reducible refine (Qbz.calls a0 1 60 false _ A3.out).mono ?_);rintro e w' ⟨rfl,⟨nd,rfl⟩⟩;refine ⟨_,rfl,?_⟩))
  go_ret2
  exact ⟨by first|rfl|(simp;done)|(simp [*];done),by repeat (first|exact Drawn0.refl _|apply Drawn0.step)⟩
mutual
def laws_FnSievesOfTableaux.j0:Nat→List Int→Int→Int→List Int→Bool→Bool→Option (Bool)
 |0,_,_,_,_,_,_=>none
 |k+1,x1,x5,x6,x7,x10,x87=>if x87=true then (none) else ((Qd4.f x1).bind fun bt855=>((Qbi.f k bt855.1 bt855.2.1 bt855.2.2).bind fun bt858=>((Qbk.f k bt855.1 bt855.2.1 bt855.2.2).bind fun bt860=>(if (bt858.2 !=bt860.2)=true then (laws_FnSievesOfTableaux.j1 k x1 x5 x6 x7 x10 bt855.1 bt855.2.1 bt855.2.2 bt858.1 bt858.2 true) else (laws_FnSievesOfTableaux.j1 k x1 x5 x6 x7 x10 bt855.1 bt855.2.1 bt855.2.2 bt858.1 bt858.2 (bt858.1 !=bt860.1))))))
def laws_FnSievesOfTableaux.j1:Nat→List Int→Int→Int→List Int→Bool→Int→Int→Int→Int→Bool→Bool→Option (Bool)
 |0,_,_,_,_,_,_,_,_,_,_,_=>none
 |k+1,x1,x5,x6,x7,x10,x11,x12,x13,x14,x15,x115=>if x115=true then (none) else (if x15=true then ((Qcw.f k x11 x12).bind fun bt862=>((Q7.f k bt862.1 (wrap64 (x11*x12))).bind fun bt866=>((Qi.f k bt866.1 x13).bind fun bt870=>(if bt862.2=true then (if bt866.2=true then (if bt870.2=true then (if bt870.1=x14 then (laws_FnSievesOfTableaux.j2 k x1 x5 x6 x7 x10) else (none)) else (none)) else (none)) else (none))))) else (laws_FnSievesOfTableaux.j2 k x1 x5 x6 x7 x10))
def laws_FnSievesOfTableaux.j2:Nat→List Int→Int→Int→List Int→Bool→Option (Bool)
 |0,_,_,_,_,_=>none
 |k+1,x1,x5,x6,x7,x10=>(Qda.f k x1).bind fun t872=>((Qm.f k t872).bind fun bt875=>((Qx.f k t872).bind fun bt879=>((Qbs.f k x1).bind fun bt883=>((Qbh.f bt883.1 bt883.2).bind fun bt889=>((Q9.f k bt883.1 bt883.2).bind fun bt891=>(if (bt875.2 !=bt879.2)=true then (laws_FnSievesOfTableaux.j3 k x1 x5 x6 x7 x10 true) else ((Qcp.f k bt875.1 bt879.1).bind fun t893=>(if t893=true then (if (bt889.2 !=bt891.2)=true then (laws_FnSievesOfTableaux.j3 k x1 x5 x6 x7 x10 true) else (laws_FnSievesOfTableaux.j3 k x1 x5 x6 x7 x10 (bt889.1 !=bt891.1))) else (laws_FnSievesOfTableaux.j3 k x1 x5 x6 x7 x10 true)))))))))
def laws_FnSievesOfTableaux.j3:Nat→List Int→Int→Int→List Int→Bool→Bool→Option (Bool)
 |0,_,_,_,_,_,_=>none
 |k+1,x1,x5,x6,x7,x10,x199=>if x199=true then (none) else ((Qep.f x1).bind fun bt894=>((Qdx.f k bt894.1 bt894.2).bind fun bt896=>((Qeb.f k bt894.1 bt894.2).bind fun bt898=>(if (bt896.2 !=bt898.2)=true then (laws_FnSievesOfTableaux.j4 k x5 x6 x7 x10 bt894.1 bt894.2 bt896.2 true) else (laws_FnSievesOfTableaux.j4 k x5 x6 x7 x10 bt894.1 bt894.2 bt896.2 (bt896.1 !=bt898.1))))))
def laws_FnSievesOfTableaux.j4:Nat→Int→Int→List Int→Bool→Int→Int→Bool→Bool→Option (Bool)
 |0,_,_,_,_,_,_,_,_=>none
 |k+1,x5,x6,x7,x10,x35,x36,x38,x224=>if x224=true then (none) else (if x38=true then (laws_FnSievesOfTableaux.l0 k x5 x6 x7 x10 x35 x36 0 1) else (laws_FnSievesOfTableaux.j6 k x5 x6 x7 x10))
def laws_FnSievesOfTableaux.j6:Nat→Int→Int→List Int→Bool→Option (Bool)
 |0,_,_,_,_=>none
 |k+1,x5,x6,x7,x10=>if x10=true then ((Qcw.f k x5 x6).bind fun bt902=>((Q7.f k bt902.1 (wrap64 (x5*x6))).bind fun bt906=>((Qbh.f bt906.1 x7).bind fun bt910=>((Qm.f k bt906.1).bind fun bt912=>(if bt902.2=true then (if bt906.2=true then (if bt910.2=true then (if bt912.2=true then (laws_FnSievesOfTableaux.j7 k x5 x6 x7 bt912.1 (!bt910.1)) else (laws_FnSievesOfTableaux.j7 k x5 x6 x7 bt912.1 true)) else (laws_FnSievesOfTableaux.j7 k x5 x6 x7 bt912.1 true)) else (laws_FnSievesOfTableaux.j7 k x5 x6 x7 bt912.1 true)) else (laws_FnSievesOfTableaux.j7 k x5 x6 x7 bt912.1 true)))))) else (some true)
def laws_FnSievesOfTableaux.j7:Nat→Int→Int→List Int→List Int→Bool→Option (Bool)
 |0,_,_,_,_,_=>none
 |k+1,x5,x6,x7,x52,x298=>if x298=true then (none) else (laws_FnSievesOfTableaux.l1 k x5 x6 x7 x52 0 1)
def laws_FnSievesOfTableaux.l1:Nat→Int→Int→List Int→List Int→Int→Int→Option (Bool)
 |0,_,_,_,_,_,_=>none
 |k+1,x5,x6,x7,x52,x54,x55=>if x55≤(wrap64 (x5*x6)) then (if x55=0 then (none) else (if (Int.tmod (wrap64 (x5*x6)) x55)>0 then (laws_FnSievesOfTableaux.l1 k x5 x6 x7 x52 x54 (wrap64 (x55+1))) else (laws_FnSievesOfTableaux.l2 k x5 x6 x7 x52 x54 x55 0 x7 (x7.length:Int) 0))) else (some (x54==(x52.length:Int)))
def laws_FnSievesOfTableaux.l2:Nat→Int→Int→List Int→List Int→Int→Int→Int→List Int→Int→Int→Option (Bool)
 |0,_,_,_,_,_,_,_,_,_,_=>none
 |k+1,x5,x6,x7,x52,x54,x55,x56,x312,x313,x314=>if x314<x313 then (if 0≤x314 then (if x314<(x312.length:Int) then (if (rd x312 x314)=x55 then (laws_FnSievesOfTableaux.l2 k x5 x6 x7 x52 x54 x55 (wrap64 (x56+1)) x312 x313 (wrap64 (x314+1))) else (laws_FnSievesOfTableaux.l2 k x5 x6 x7 x52 x54 x55 x56 x312 x313 (wrap64 (x314+1)))) else (none)) else (none)) else (if 0≤x54 then (if x54<(x52.length:Int) then (if (rd x52 x54)=x56 then (laws_FnSievesOfTableaux.l1 k x5 x6 x7 x52 (wrap64 (x54+1)) (wrap64 (x55+1))) else (none)) else (none)) else (none))
def laws_FnSievesOfTableaux.l0:Nat→Int→Int→List Int→Bool→Int→Int→Int→Int→Option (Bool)
 |0,_,_,_,_,_,_,_,_=>none
 |k+1,x5,x6,x7,x10,x35,x36,x41,x42=>if x42≤x35 then (if x42=0 then (none) else (if (Int.tmod x35 x42)=0 then ((Qdx.f k x42 x36).bind fun bt900=>(if bt900.2=true then (laws_FnSievesOfTableaux.l0 k x5 x6 x7 x10 x35 x36 (wrap64 (x41+bt900.1)) (wrap64 (x42+1))) else (none))) else (laws_FnSievesOfTableaux.l0 k x5 x6 x7 x10 x35 x36 x41 (wrap64 (x42+1))))) else (if x35=0 then (none) else (if (Int.tmod x36 x35)=0 then (if x41=x35 then (laws_FnSievesOfTableaux.j6 k x5 x6 x7 x10) else (none)) else (if x41=0 then (laws_FnSievesOfTableaux.j6 k x5 x6 x7 x10) else (none))))
end
def laws_FnSievesOfTableaux.f (k:Nat) (l0:List Int) (l1:List Int):Option (Bool):=(Qfc.f l0 l1).bind fun t843=>(if t843=true then (some true) else ((Qdi.f l0).bind fun bt844=>((Qcc.f k bt844.1 bt844.2).bind fun bt846=>((Ql.f k bt844.1 bt844.2).bind fun bt850=>(if (bt846.2 !=bt850.2)=true then (laws_FnSievesOfTableaux.j0 k l1 bt844.1 bt844.2 bt846.1 bt850.2 true) else ((Qcp.f k bt846.1 bt850.1).bind fun t854=>(laws_FnSievesOfTableaux.j0 k l1 bt844.1 bt844.2 bt846.1 bt850.2 (!t854))))))))
theorem laws_FnSievesOfTableaux.mono_l: ∀ k,(∀ y0 y1 y2 y3 y4 y5,LeO (laws_FnSievesOfTableaux.j0 k y0 y1 y2 y3 y4 y5) (laws_FnSievesOfTableaux.j0 (k+1) y0 y1 y2 y3 y4 y5))∧(∀ y0 y1 y2 y3 y4 y5 y6 y7 y8 y9 y10,LeO (laws_FnSievesOfTableaux.j1 k y0 y1 y2 y3 y4 y5 y6 y7 y8 y9 y10) (laws_FnSievesOfTableaux.j1 (k+1) y0 y1 y2 y3 y4 y5 y6 y7 y8 y9 y10))∧(∀ y0 y1 y2 y3 y4,LeO (laws_FnSievesOfTableaux.j2 k y0 y1 y2 y3 y4) (laws_FnSievesOfTableaux.j2 (k+1) y0 y1 y2 y3 y4))∧(∀ y0 y1 y2 y3 y4 y5,LeO (laws_FnSievesOfTableaux.j3 k y0 y1 y2 y3 y4 y5) (laws_FnSievesOfTableaux.j3 (k+1) y0 y1 y2 y3 y4 y5))∧(∀ y0 y1 y2 y3 y4 y5 y6 y7,LeO (laws_FnSievesOfTableaux.j4 k y0 y1 y2 y3 y4 y5 y6 y7) (laws_FnSievesOfTableaux.j4 (k+1) y0 y1 y2 y3 y4 y5 y6 y7))∧(∀ y0 y1 y2 y3,LeO (laws_FnSievesOfTableaux.j6 k y0 y1 y2 y3) (laws_FnSievesOfTableaux.j6 (k+1) y0 y1 y2 y3))∧(∀ y0 y1 y2 y3 y4,LeO (laws_FnSievesOfTableaux.j7 k y0 y1 y2 y3 y4) (laws_FnSievesOfTableaux.j7 (k+1) y0 y1 y2 y3 y4))∧(∀ y0 y1 y2 y3 y4 y5,LeO (laws_FnSievesOfTableaux.l1 k y0 y1 y2 y3 y4 y5) (laws_FnSievesOfTableaux.l1 (k+1) y0 y1 y2 y3 y4 y5))∧(∀ y0 y1 y2 y3 y4 y5 y6 y7 y8 y9,LeO (laws_FnSievesOfTableaux.l2 k y0 y1 y2 y3 y4 y5 y6 y7 y8 y9) (laws_FnSievesOfTableaux.l2 (k+1) y0 y1 y2 y3 y4 y5 y6 y7 y8 y9))∧(∀ y0 y1 y2 y3 y4 y5 y6 y7,LeO (laws_FnSievesOfTableaux.l0 k y0 y1 y2 y3 y4 y5 y6 y7) (laws_FnSievesOfTableaux.l0 (k+1) y0 y1 y2 y3 y4 y5 y6 y7))
 |0=>⟨fun _ _ _ _ _ _ r h=>by simp [laws_FnSievesOfTableaux.j0] at h,fun _ _ _ _ _ _ _ _ _ _ _ r h=>by simp [laws_FnSievesOfTableaux.j1] at h,fun _ _ _ _ _ r h=>by simp [laws_FnSievesOfTableaux.j2] at h,fun _ _ _ _ _ _ r h=>by simp [laws_FnSievesOfTableaux.j3] at h,fun _ _ _ _ _ _ _ _ r h=>by simp [laws_FnSievesOfTableaux.j4] at h,fun _ _ _ _ r h=>by simp [laws_FnSievesOfTableaux.j6] at h,fun _ _ _ _ _ r h=>by simp [laws_FnSievesOfTableaux.j7] at h,fun _ _ _ _ _ _ r h=>by simp [laws_FnSievesOfTableaux.l1] at h,fun _ _ _ _ _ _ _ _ _ _ r h=>by simp [laws_FnSievesOfTableaux.l2] at h,fun _ _ _ _ _ _ _ _ r h=>by simp [laws_FnSievesOfTableaux.l0] at h⟩
 |k+1=>by
  obtain ⟨ih0,ih1,ih2,ih3,ih4,ih5,ih6,ih7,ih8,ih9⟩:=laws_FnSievesOfTableaux.mono_l k;refine ⟨?_,?_,?_,?_,?_,?_,?_,?_,?_,?_⟩
  all_goals
   intros
   first|unfold laws_FnSievesOfTableaux.j0|unfold laws_FnSievesOfTableaux.j1|unfold laws_FnSievesOfTableaux.j2|unfold laws_FnSievesOfTableaux.j3|unfold laws_FnSievesOfTableaux.j4|unfold laws_FnSievesOfTableaux.j6|unfold laws_FnSievesOfTableaux.j7|unfold laws_FnSievesOfTableaux.l1|unfold laws_FnSievesOfTableaux.l2|unfold laws_FnSievesOfTableaux.l0
   repeat' (with_reducible first|apply ih0|apply ih1|apply ih2|apply ih3|apply ih4|apply ih5|apply ih6|apply ih7|apply ih8|apply ih9|apply Qcw.mono|apply Qm.mono|apply Qbi.mono|apply Qcc.mono|apply Q7.mono|apply Qdx.mono|apply Qi.mono|apply Qcp.mono|apply Qbs.mono|apply Qda.mono|apply Q9.mono|apply Qx.mono|apply Qbk.mono|apply Ql.mono|apply Qeb.mono|exact LeO.refl _|exact LeO.none _|refine LeO.ite ?_ ?_|refine LeO.bind ?_ (fun _=> ?_))
theorem laws_FnSievesOfTableaux.mono: ∀ a0 a1 k,LeO (laws_FnSievesOfTableaux.f k a0 a1) (laws_FnSievesOfTableaux.f (k+1) a0 a1):=by
 intro a0 a1 k;obtain ⟨ih0,ih1,ih2,ih3,ih4,ih5,ih6,ih7,ih8,ih9⟩:=laws_FnSievesOfTableaux.mono_l k;unfold laws_FnSievesOfTableaux.f
 repeat' (with_reducible first|apply ih0|apply ih1|apply ih2|apply ih3|apply ih4|apply ih5|apply ih6|apply ih7|apply ih8|apply ih9|apply Qcw.mono|apply Qm.mono|apply Qbi.mono|apply Qcc.mono|apply Q7.mono|apply Qdx.mono|apply Qi.mono|apply Qcp.mono|apply Qbs.mono|apply Qda.mono|apply Q9.mono|apply Qx.mono|apply Qbk.mono|apply Ql.mono|apply Qeb.mono|exact LeO.refl _|exact LeO.none _|refine LeO.ite ?_ ?_|refine LeO.bind ?_ (fun _=> ?_))
set_option maxHeartbeats 8000000 in
set_option maxRecDepth 100000 in
theorem laws_FnSievesOfTableaux.calls (k:Nat) (A0:Option Addr) (c0:Nat) (l0:List Int) (A1:Option Addr) (c1:Nat) (l1:List Int) (r:Bool) (w:World) (hr0:Kd.C (Kd.int .u8) w A0 l0.length l0) (hc0:l0.length≤c0) (hr1:Kd.C (Kd.int .u8) w A1 l1.length l1) (hc1:l1.length≤c1) (h:laws_FnSievesOfTableaux.f k l0 l1=some r):
 Calls Tryz.prog 9 #[.slice A0 l0.length c0, .slice A1 l1.length c1] w fun e w'=>e= .returned (.bool r)∧Below w.heap.size w w':=by
 have HR0:=Zk hr0;have HC0:=Zk hc0;clear hr0 hc0;have HR1:=Zk hr1;have HC1:=Zk hc1;clear hr1 hc1;have HB:=Zk (Below.refl w.heap.size w);have H:((Qfc.f l0 l1).bind fun t843=>(if t843=true then (some true) else ((Qdi.f l0).bind fun bt844=>((Qcc.f k bt844.1 bt844.2).bind fun bt846=>((Ql.f k bt844.1 bt844.2).bind fun bt850=>(if (bt846.2 !=bt850.2)=true then (laws_FnSievesOfTableaux.j0 k l1 bt844.1 bt844.2 bt846.1 bt850.2 true) else ((Qcp.f k bt846.1 bt850.1).bind fun t854=>(laws_FnSievesOfTableaux.j0 k l1 bt844.1 bt844.2 bt846.1 bt850.2 (!t854)))))))))=some r:=h;clear h;obtain ⟨t843,A3,H⟩:=bs H;(try dsimp only at H)
 by_cases c4:t843=true
 ·
  subst c4;rw [if_pos rfl] at H;obtain rfl:=Option.some.inj H;go_enter Tryz.func9,Tryz.ntmps9;go_wp2_with ((with_reducible refine gt ?_);first|(refine gA (some 61) Tryz.func10 #[.slice A0 l0.length c0, .slice A1 l1.length c1] ?_;(with_reducible refine (Qfc.calls _ _ l0 _ _ l1 true _ (uC HR0) HC0.out (uC HR1) HC1.out A3.out).mono ?_);rintro e w' ⟨rfl,⟨nd,rfl⟩⟩;refine ⟨_,rfl,?_⟩))
  go_ret
  exact ⟨by first|rfl|(simp [Qe,Qf] <;>rfl)|(simp [*,Qe,Qf] <;>rfl),uB HB⟩
 ·
  replace c4:=Bool.eq_false_iff.mpr c4;subst c4;rw [if_neg (show ¬ (false=true) by decide)] at H;obtain ⟨⟨t844,t845⟩,A5,H⟩:=bs H;(try dsimp only at H)
  obtain ⟨⟨t846,t847⟩,A6,H⟩:=bs H;(try dsimp only at H)
  obtain ⟨⟨t850,t851⟩,A7,H⟩:=bs H;(try dsimp only at H)
  have HC8:=Zk H;clear H;go_enter Tryz.func9,Tryz.ntmps9
  as_aux_lemma=>
   go_upto_region 6 with ((with_reducible refine gt ?_);first|(refine gA (some 61) Tryz.func10 #[.slice A0 l0.length c0, .slice A1 l1.length c1] ?_;(with_reducible refine (Qfc.calls _ _ l0 _ _ l1 false _ (uC HR0) HC0.out (uC HR1) HC1.out A3.out).mono ?_);rintro e w' ⟨rfl,⟨nd,rfl⟩⟩;refine ⟨_,rfl,?_⟩)|(refine gA (some 64) Tryz.func134 #[.slice A0 l0.length c0] ?_;(with_reducible refine (Qdi.calls _ _ l0 t844 t845 _ (uC HR0) HC0.out A5.out).mono ?_);rintro e w9 ⟨rfl,hb⟩;refine ⟨_,rfl,?_⟩;replace HB:=Zk (Qb (uB HB) hb);(try clear hb))|(refine gA (some 70) Tryz.func135 #[.int .i64 t844, .int .i64 t845] ?_;(with_reducible refine (Qcc.calls k t844 t845 t846 t847 _ A6.out).mono ?_);rintro e w10 ⟨v848,rfl,ho0,hb⟩;refine ⟨_,rfl,?_⟩;have HO849:=Zk (Kd.R_lower ho0 (Qh (uB HB)));replace HB:=Zk (Qb (uB HB) hb);(try clear hb ho0))|(refine gA (some 76) Tryz.func136 #[.int .i64 t844, .int .i64 t845] ?_;(with_reducible refine (Ql.calls k t844 t845 t850 t851 _ A7.out).mono ?_);rintro e w11 ⟨v852,rfl,ho0,hb⟩;refine ⟨_,rfl,?_⟩;have HO853:=Zk (Kd.R_lower (Kd.R_new' ho0 (Kd.R_lt (uR HO849))) (Qh (uB HB)));replace HO849:=Zk (Kd.R_elder' (uR HO849) (Kd.R_base ho0) hb);replace HB:=Zk (Qb (uB HB) hb);(try clear hb ho0)))
   (try simp only [Act.put,List.setIfInBounds_toArray,List.set_cons_zero,List.set_cons_succ])
   as_aux_lemma=>
    go_cut [87] (fun v87 wc=> ∃ (kq:Nat) (x87_7:Bool),v87= .bool x87_7∧Z0 (laws_FnSievesOfTableaux.j0 kq l1 t844 t845 t846 t851 x87_7=some r)∧Z0 (kq≤k)∧Z0 (Kd.R (Kd.int .i64) 3 wc w.heap.size (fun _=>True) v848 t846)∧Z0 (Below w.heap.size w wc))
    case first=>as_aux_lemma=>
     have H:=HC8.out;clear HC8
     by_cases c12:(t847 !=t851)=true
     ·
      rw [if_pos c12] at H;have c12b0:(t847 !=t851)=true:=c12
      (try (have c12b1:decide (t847=t851)=false:=by simpa using c12))
      (try (have c12b2:(t847==t851)=false:=by simpa using c12))
      (try (have c12b3: ¬ (t847=t851):=by simpa using c12))
      clear c12
      (first|rw [c12b0] |(simp only [Qcm,Qee];rw [c12b0])|skip)
      have H':=Zk H;clear H;go_wp2
      go_meet
      case rel=>exact ⟨_,(true),(by first|rfl|(simp;done)|(simp [*];done)),H',⟨by first|omega|exact Nat.le_refl _⟩,⟨Kd.R_mono (uR HO849) (fun _ hk=>trivial)⟩,⟨uB HB⟩⟩
     ·
      rw [if_neg c12] at H;have c12b0:(t847 !=t851)=false:=by simpa using c12
      (try (have c12b1:decide (t847=t851)=true:=by simpa using c12))
      (try (have c12b2:(t847==t851)=true:=by simpa using c12))
      clear c12
      (first|rw [c12b0] |(simp only [Qcm,Qee];rw [c12b0])|skip)
      obtain ⟨t854,A13,H⟩:=bs H;(try dsimp only at H)
      have H':=Zk H;clear H;obtain ⟨Ao14,co14,eo14⟩:=Kd.R_slice HO849.out;subst eo14;obtain ⟨Ao15,co15,eo15⟩:=Kd.R_slice HO853.out;subst eo15;go_wp2_with (first|(go_at_call 64;(with_reducible refine (Qcp.calls k _ _ t846 _ _ t850 t854 _ (uE HO849) ?side2 (uE HO853) ?side4 A13.out).mono ?_);(case side2=>exact (Kd.R_reads' HO849.out).2.1);(case side4=>exact (Kd.R_reads' HO853.out).2.1);rintro e w' ⟨rfl,⟨nd,rfl⟩⟩))
      go_meet
      case rel=>exact ⟨_,(!t854),(by first|rfl|(simp;done)|(simp [*];done)),H',⟨by first|omega|exact Nat.le_refl _⟩,⟨Kd.R_mono (uR HO849) (fun _ hk=>trivial)⟩,⟨uB HB⟩⟩
    case rest=>as_aux_lemma=>
     clear HC8
     skip
     obtain ⟨kq,x87_7,rfl,HA,HJ7,HO_7,HB⟩:=hcut;cases kq with
     |zero=>exact absurd HA.out (by simp [laws_FnSievesOfTableaux.j0])
     |succ kj7=>
      have H:=HA.out;clear HA;simp only [laws_FnSievesOfTableaux.j0] at H
      by_cases c16:x87_7=true
      ·
       subst c16;rw [if_pos rfl] at H;exact absurd H (by simp)
      ·
       replace c16:=Bool.eq_false_iff.mpr c16;subst c16;rw [if_neg (show ¬ (false=true) by decide)] at H;obtain ⟨⟨t855,t856,t857⟩,A17,H⟩:=bs H;(try dsimp only at H)
       obtain ⟨⟨t858,t859⟩,A18,H⟩:=bs H;(try dsimp only at H)
       obtain ⟨⟨t860,t861⟩,A19,H⟩:=bs H;(try dsimp only at H)
       have HC20:=Zk H;clear H
       as_aux_lemma=>
        go_upto_region 11 with ((with_reducible refine gt ?_);first|(refine gA (some 90) Tryz.func137 #[.slice A1 l1.length c1] ?_;(with_reducible refine (Qd4.calls _ _ l1 t855 t856 t857 _ (uD HR1 HB) HC1.out A17.out).mono ?_);rintro e w21 ⟨rfl,hb⟩;refine ⟨_,rfl,?_⟩;replace HO_7:=Zk (Kd.R_below (uR HO_7) hb);replace HB:=Zk (Qb (uB HB) hb);(try clear hb))|(refine gA (some 98) Tryz.func138 #[.int .i64 t855, .int .i64 t856, .int .i64 t857] ?_;(with_reducible refine (Qbi.calls kj7 t855 t856 t857 t858 t859 _ A18.out).mono ?_);rintro e w22 ⟨rfl,hb⟩;refine ⟨_,rfl,?_⟩;replace HO_7:=Zk (Kd.R_below (uR HO_7) hb);replace HB:=Zk (Qb (uB HB) hb);(try clear hb))|(refine gA (some 105) Tryz.func139 #[.int .i64 t855, .int .i64 t856, .int .i64 t857] ?_;(with_reducible refine (Qbk.calls kj7 t855 t856 t857 t860 t861 _ A19.out).mono ?_);rintro e w23 ⟨rfl,hb⟩;refine ⟨_,rfl,?_⟩;replace HO_7:=Zk (Kd.R_below (uR HO_7) hb);replace HB:=Zk (Qb (uB HB) hb);(try clear hb)))
        (try simp only [Act.put,List.setIfInBounds_toArray,List.set_cons_zero,List.set_cons_succ])
        as_aux_lemma=>
         go_cut [115] (fun v115 wc=> ∃ (kq:Nat) (x115_19:Bool),v115= .bool x115_19∧Z0 (laws_FnSievesOfTableaux.j1 kq l1 t844 t845 t846 t851 t855 t856 t857 t858 t859 x115_19=some r)∧Z0 (kq≤kj7)∧Z0 (Kd.R (Kd.int .i64) 3 wc w.heap.size (fun _=>True) v848 t846)∧Z0 (Below w.heap.size w wc))
         case first=>as_aux_lemma=>
          have H:=HC20.out;clear HC20
          by_cases c24:(t859 !=t861)=true
          ·
           rw [if_pos c24] at H;have c24b0:(t859 !=t861)=true:=c24
           (try (have c24b1:decide (t859=t861)=false:=by simpa using c24))
           (try (have c24b2:(t859==t861)=false:=by simpa using c24))
           (try (have c24b3: ¬ (t859=t861):=by simpa using c24))
           clear c24
           (first|rw [c24b0] |(simp only [Qcm,Qee];rw [c24b0])|skip)
           have H':=Zk H;clear H;go_wp2
           go_meet
           case rel=>exact ⟨_,(true),(by first|rfl|(simp;done)|(simp [*];done)),H',⟨by have:=HJ7.out;first|omega|exact Nat.le_refl _⟩,⟨uR HO_7⟩,⟨uB HB⟩⟩
          ·
           rw [if_neg c24] at H;have c24b0:(t859 !=t861)=false:=by simpa using c24
           (try (have c24b1:decide (t859=t861)=true:=by simpa using c24))
           (try (have c24b2:(t859==t861)=true:=by simpa using c24))
           clear c24
           (first|rw [c24b0] |(simp only [Qcm,Qee];rw [c24b0])|skip)
           have H':=Zk H;clear H;go_wp2
           go_meet
           case rel=>exact ⟨_,((t858 !=t860)),(by first|rfl|(simp;done)|(simp [*];done)),H',⟨by have:=HJ7.out;first|omega|exact Nat.le_refl _⟩,⟨uR HO_7⟩,⟨uB HB⟩⟩
         case rest=>as_aux_lemma=>
          clear HC20
          skip
          obtain ⟨kq,x115_19,rfl,HA,HJ19,HO_7,HB⟩:=hcut;cases kq with
          |zero=>exact absurd HA.out (by simp [laws_FnSievesOfTableaux.j1])
          |succ kj19=>
           have H:=HA.out;clear HA;simp only [laws_FnSievesOfTableaux.j1] at H
           by_cases c25:x115_19=true
           ·
            subst c25;rw [if_pos rfl] at H;exact absurd H (by simp)
           ·
            replace c25:=Bool.eq_false_iff.mpr c25;subst c25;rw [if_neg (show ¬ (false=true) by decide)] at H;have HC26:=Zk H;clear H
            as_aux_lemma=>
             go_upto_if 116 with (fail)
             go_cut [] (fun wc=> ∃ (kq:Nat),Z0 (laws_FnSievesOfTableaux.j2 kq l1 t844 t845 t846 t851=some r)∧Z0 (kq≤kj19)∧Z0 (Kd.R (Kd.int .i64) 3 wc w.heap.size (fun _=>True) v848 t846)∧Z0 (Below w.heap.size w wc))
             case first=>as_aux_lemma=>
              have H:=HC26.out;clear HC26
              by_cases c27:t859=true
              ·
               subst c27;rw [if_pos rfl] at H;obtain ⟨⟨t862,t863⟩,A28,H⟩:=bs H;(try dsimp only at H)
               obtain ⟨⟨t866,t867⟩,A29,H⟩:=bs H;(try dsimp only at H)
               obtain ⟨⟨t870,t871⟩,A30,H⟩:=bs H;(try dsimp only at H)
               by_cases c31:t863=true
               ·
                as_aux_lemma=>
                subst c31;rw [if_pos rfl] at H
                by_cases c32:t867=true
                ·
                 subst c32;rw [if_pos rfl] at H
                 by_cases c33:t871=true
                 ·
                  subst c33;rw [if_pos rfl] at H
                  by_cases c34:t870=t858
                  ·
                   rw [if_pos c34] at H;have c34b0:(t870==t858)=true:=beq_iff_eq.mpr c34;have c34b1:(t870 !=t858)=false:=bne_eq_false_iff_eq.mpr c34;clear c34
                   (first|rw [c34b0] |(simp only [Qcm,Qee];rw [c34b0])|skip)
                   have H':=Zk H;clear H
                   as_aux_lemma=>
                    go_wp2_with ((with_reducible refine gt ?_);first|(refine gA (some 120) Tryz.func119 #[.int .i64 t855, .int .i64 t856] ?_;(with_reducible refine (Qcw.calls kj19 t855 t856 t862 true _ A28.out).mono ?_);rintro e w35 ⟨v864,rfl,ho0,hb⟩;refine ⟨_,rfl,?_⟩;have HO865:=Zk (Kd.Q_lower (Kd.Q_new' ho0 (Kd.R_lt (uR HO_7))) (Qh (uB HB)));replace HO_7:=Zk (Kd.R_elder' (uR HO_7) (Kd.Q_base ho0) hb);replace HB:=Zk (Qb (uB HB) hb);(try clear hb ho0);obtain ⟨Ao36,co36,eo36,_⟩:=Kd.Q_slice HO865.out;subst eo36)|(refine gA (some 128) Tryz.func68 #[.slice Ao36 t862.length co36, .int .i64 (wrap64 (t855*t856))] ?_;(with_reducible refine (Q7.calls kj19 _ _ t862 (wrap64 (t855*t856)) t866 true _ ?side1 ?side2 A29.out).mono ?_);(case side1=>repeat (first|exact (Kd.Q_reads' HO865.out).2.2|(with_reducible refine Kd.C_alloc ?_ _)|(with_reducible refine Kd.C_drewN ?_ _)|(with_reducible refine Kd.C_drew ?_)));(case side2=>exact (Kd.Q_reads' HO865.out).2.1);rintro e w37 ⟨v868,rfl,ho0,hb⟩;refine ⟨_,rfl,?_⟩;have HO869:=Zk (Kd.R_lower (Kd.R_new' (Kd.R_new' ho0 (Kd.R_lt (uR HO_7))) (Kd.Q_lt (by (with_reducible repeat (first|apply Kd.Q_alloc|apply Kd.Q_drewN|apply Kd.Q_drew));exact HO865.out))) (Qh (uB HB)));replace HO_7:=Zk (Kd.R_elder' (uR HO_7) (Kd.R_base ho0) hb);replace HO865:=Zk (Kd.Q_elder' (by (with_reducible repeat (first|apply Kd.Q_alloc|apply Kd.Q_drewN|apply Kd.Q_drew));exact HO865.out) (Kd.R_base ho0) hb);replace HB:=Zk (Qb (uB HB) hb);(try clear hb ho0);obtain ⟨Ao38,co38,eo38⟩:=Kd.R_slice HO869.out;subst eo38)|(refine gA (some 134) Tryz.func69 #[.slice Ao38 t866.length co38, .int .i64 t857] ?_;(with_reducible refine (Qi.calls kj19 _ _ t866 t857 t870 true _ (uE HO869) ?side2 A30.out).mono ?_);(case side2=>exact (Kd.R_reads' HO869.out).2.1);rintro e w39 ⟨rfl,hb⟩;refine ⟨_,rfl,?_⟩;replace HO_7:=Zk (Kd.R_below (uR HO_7) hb);replace HO865:=Zk (Kd.Q_below (by (with_reducible repeat (first|apply Kd.Q_alloc|apply Kd.Q_drewN|apply Kd.Q_drew));exact HO865.out) hb);replace HO869:=Zk (Kd.R_below (uR HO869) hb);replace HB:=Zk (Qb (uB HB) hb);(try clear hb)))
                    go_meet
                    case rel=>exact ⟨_,H',⟨by have:=HJ7.out;have:=HJ19.out;first|omega|exact Nat.le_refl _⟩,⟨Kd.R_mono (uR HO_7) (fun _ hk=>trivial)⟩,⟨uB HB⟩⟩
                  ·
                   rw [if_neg c34] at H;exact absurd H (by simp)
                 ·
                  replace c33:=Bool.eq_false_iff.mpr c33;subst c33;rw [if_neg (show ¬ (false=true) by decide)] at H;exact absurd H (by simp)
                ·
                 replace c32:=Bool.eq_false_iff.mpr c32;subst c32;rw [if_neg (show ¬ (false=true) by decide)] at H;exact absurd H (by simp)
               ·
                replace c31:=Bool.eq_false_iff.mpr c31;subst c31;rw [if_neg (show ¬ (false=true) by decide)] at H;exact absurd H (by simp)
              ·
               replace c27:=Bool.eq_false_iff.mpr c27;subst c27;rw [if_neg (show ¬ (false=true) by decide)] at H;have H':=Zk H;clear H;go_wp2
               go_meet
               case rel=>exact ⟨_,H',⟨by have:=HJ7.out;have:=HJ19.out;first|omega|exact Nat.le_refl _⟩,⟨uR HO_7⟩,⟨uB HB⟩⟩
             case rest=>as_aux_lemma=>
              clear HC26
              skip
              obtain ⟨kq,HA,HJ25,HO_7,HB⟩:=hcut;cases kq with
              |zero=>exact absurd HA.out (by simp [laws_FnSievesOfTableaux.j2])
              |succ kj25=>
               have H:=HA.out;clear HA;simp only [laws_FnSievesOfTableaux.j2] at H;obtain ⟨t872,A40,H⟩:=bs H;(try dsimp only at H)
               obtain ⟨⟨t875,t876⟩,A41,H⟩:=bs H;(try dsimp only at H)
               obtain ⟨⟨t879,t880⟩,A42,H⟩:=bs H;(try dsimp only at H)
               obtain ⟨⟨t883,t884⟩,A43,H⟩:=bs H;(try dsimp only at H)
               obtain ⟨⟨t889,t890⟩,A44,H⟩:=bs H;(try dsimp only at H)
               obtain ⟨⟨t891,t892⟩,A45,H⟩:=bs H;(try dsimp only at H)
               have HC46:=Zk H;clear H
               as_aux_lemma=>
                go_upto_region 25 with ((with_reducible refine gt ?_);first|(refine gA (some 153) Tryz.func140 #[.slice A1 l1.length c1] ?_;(with_reducible refine (Qda.calls kj25 _ _ l1 t872 _ (uD HR1 HB) HC1.out A40.out).mono ?_);rintro e w47 ⟨v873,rfl,ho0,hb⟩;refine ⟨_,rfl,?_⟩;have HO874:=Zk (Kd.R_lower (Kd.R_new' ho0 (Kd.R_lt (uR HO_7))) (Qh (uB HB)));replace HO_7:=Zk (Kd.R_elder' (uR HO_7) (Kd.R_base ho0) hb);replace HB:=Zk (Qb (uB HB) hb);(try clear hb ho0);obtain ⟨Ao48,co48,eo48⟩:=Kd.R_slice HO874.out;subst eo48)|(refine gA (some 156) Tryz.func141 #[.slice Ao48 t872.length co48] ?_;(with_reducible refine (Qm.calls kj25 _ _ t872 t875 t876 _ (uE HO874) ?side2 A41.out).mono ?_);(case side2=>exact (Kd.R_reads' HO874.out).2.1);rintro e w49 ⟨v877,rfl,ho0,hb⟩;refine ⟨_,rfl,?_⟩;have HO878:=Zk (Kd.R_lower (Kd.R_new' (Kd.R_new' ho0 (Kd.R_lt (uR HO_7))) (Kd.R_lt (uR HO874))) (Qh (uB HB)));replace HO_7:=Zk (Kd.R_elder' (uR HO_7) (Kd.R_base ho0) hb);replace HO874:=Zk (Kd.R_elder' (uR HO874) (Kd.R_base ho0) hb);replace HB:=Zk (Qb (uB HB) hb);(try clear hb ho0))|(refine gA (some 161) Tryz.func142 #[.slice Ao48 t872.length co48] ?_;(with_reducible refine (Qx.calls kj25 _ _ t872 t879 t880 _ (uE HO874) ?side2 A42.out).mono ?_);(case side2=>exact (Kd.R_reads' HO874.out).2.1);rintro e w50 ⟨v881,rfl,ho0,hb⟩;refine ⟨_,rfl,?_⟩;have HO882:=Zk (Kd.R_lower (Kd.R_new' (Kd.R_new' (Kd.R_new' ho0 (Kd.R_lt (uR HO_7))) (Kd.R_lt (uR HO874))) (Kd.R_lt (uR HO878))) (Qh (uB HB)));replace HO_7:=Zk (Kd.R_elder' (uR HO_7) (Kd.R_base ho0) hb);replace HO874:=Zk (Kd.R_elder' (uR HO874) (Kd.R_base ho0) hb);replace HO878:=Zk (Kd.R_elder' (uR HO878) (Kd.R_base ho0) hb);replace HB:=Zk (Qb (uB HB) hb);(try clear hb ho0))|(refine gA (some 166) Tryz.func143 #[.slice A1 l1.length c1] ?_;(with_reducible refine (Qbs.calls kj25 _ _ l1 t883 t884 _ (uD HR1 HB) HC1.out A43.out).mono ?_);rintro e w51 ⟨v885,v887,rfl,ho0,ho1,hb⟩;refine ⟨_,rfl,?_⟩;have HO886:=Zk (Kd.R_lower (Kd.R_new' (Kd.R_new' (Kd.R_new' (Kd.R_new' ho0 (Kd.R_lt (uR HO_7))) (Kd.R_lt (uR HO874))) (Kd.R_lt (uR HO878))) (Kd.R_lt (uR HO882))) (Qh (uB HB)));have HO888:=Zk (Kd.R_lower (Kd.R_new' (Kd.R_new' (Kd.R_new' (Kd.R_new' ho1 (Kd.R_lt (uR HO_7))) (Kd.R_lt (uR HO874))) (Kd.R_lt (uR HO878))) (Kd.R_lt (uR HO882))) (Qh (uB HB)));replace HO_7:=Zk (Kd.R_mono (Kd.R_told (Kd.R_told (Kd.R_old (uR HO_7) hb) (Kd.R_base ho0)) (Kd.R_base ho1)) (fun _ h_=>h_.1));replace HO874:=Zk (Kd.R_mono (Kd.R_told (Kd.R_told (Kd.R_old (uR HO874) hb) (Kd.R_base ho0)) (Kd.R_base ho1)) (fun _ h_=>h_.1));replace HO878:=Zk (Kd.R_mono (Kd.R_told (Kd.R_told (Kd.R_old (uR HO878) hb) (Kd.R_base ho0)) (Kd.R_base ho1)) (fun _ h_=>h_.1));replace HO882:=Zk (Kd.R_mono (Kd.R_told (Kd.R_told (Kd.R_old (uR HO882) hb) (Kd.R_base ho0)) (Kd.R_base ho1)) (fun _ h_=>h_.1));replace HB:=Zk (Qb (uB HB) hb);(try clear hb ho0 ho1);obtain ⟨Ao52,co52,eo52⟩:=Kd.R_slice HO886.out;subst eo52;obtain ⟨Ao53,co53,eo53⟩:=Kd.R_slice HO888.out;subst eo53)|(refine gA (some 172) Tryz.func76 #[.slice Ao52 t883.length co52, .slice Ao53 t884.length co53] ?_;(with_reducible refine (Qbh.calls _ _ t883 _ _ t884 t889 t890 _ (uE HO886) ?side2 (uE HO888) ?side4 A44.out).mono ?_);(case side2=>exact (Kd.R_reads' HO886.out).2.1);(case side4=>exact (Kd.R_reads' HO888.out).2.1);rintro e w54 ⟨rfl,hb⟩;refine ⟨_,rfl,?_⟩;replace HO_7:=Zk (Kd.R_below (uR HO_7) hb);replace HO874:=Zk (Kd.R_below (uR HO874) hb);replace HO878:=Zk (Kd.R_below (uR HO878) hb);replace HO882:=Zk (Kd.R_below (uR HO882) hb);replace HO886:=Zk (Kd.R_below (uR HO886) hb);replace HO888:=Zk (Kd.R_below (uR HO888) hb);replace HB:=Zk (Qb (uB HB) hb);(try clear hb))|(refine gA (some 178) Tryz.func144 #[.slice Ao52 t883.length co52, .slice Ao53 t884.length co53] ?_;(with_reducible refine (Q9.calls kj25 _ _ t883 _ _ t884 t891 t892 _ (uE HO886) ?side2 (uE HO888) ?side4 A45.out).mono ?_);(case side2=>exact (Kd.R_reads' HO886.out).2.1);(case side4=>exact (Kd.R_reads' HO888.out).2.1);rintro e w' ⟨rfl,⟨nd,rfl⟩⟩;refine ⟨_,rfl,?_⟩))
                (try simp only [Act.put,List.setIfInBounds_toArray,List.set_cons_zero,List.set_cons_succ])
                as_aux_lemma=>
                 go_cut [199] (fun v199 wc=> ∃ (kq:Nat) (x199_45:Bool),v199= .bool x199_45∧Z0 (laws_FnSievesOfTableaux.j3 kq l1 t844 t845 t846 t851 x199_45=some r)∧Z0 (kq≤kj25)∧Z0 (Kd.R (Kd.int .i64) 3 wc w.heap.size (fun _=>True) v848 t846)∧Z0 (Below w.heap.size w wc))
                 case first=>as_aux_lemma=>
                  have H:=HC46.out;clear HC46
                  by_cases c55:(t876 !=t880)=true
                  ·
                   rw [if_pos c55] at H;have c55b0:(t876 !=t880)=true:=c55
                   (try (have c55b1:decide (t876=t880)=false:=by simpa using c55))
                   (try (have c55b2:(t876==t880)=false:=by simpa using c55))
                   (try (have c55b3: ¬ (t876=t880):=by simpa using c55))
                   clear c55
                   (first|rw [c55b0] |(simp only [Qcm,Qee];rw [c55b0])|skip)
                   have H':=Zk H;clear H;go_wp2
                   go_meet
                   case rel=>exact ⟨_,(true),(by first|rfl|(simp;done)|(simp [*];done)),H',⟨by have:=HJ7.out;have:=HJ19.out;have:=HJ25.out;first|omega|exact Nat.le_refl _⟩,⟨Kd.R_mono (uR HO_7) (fun _ hk=>trivial)⟩,⟨uB HB⟩⟩
                  ·
                   rw [if_neg c55] at H;have c55b0:(t876 !=t880)=false:=by simpa using c55
                   (try (have c55b1:decide (t876=t880)=true:=by simpa using c55))
                   (try (have c55b2:(t876==t880)=true:=by simpa using c55))
                   clear c55
                   (first|rw [c55b0] |(simp only [Qcm,Qee];rw [c55b0])|skip)
                   obtain ⟨t893,A56,H⟩:=bs H;(try dsimp only at H)
                   by_cases c57:t893=true
                   ·
                    subst c57;rw [if_pos rfl] at H
                    by_cases c58:(t890 !=t892)=true
                    ·
                     rw [if_pos c58] at H;have c58b0:(t890 !=t892)=true:=c58
                     (try (have c58b1:decide (t890=t892)=false:=by simpa using c58))
                     (try (have c58b2:(t890==t892)=false:=by simpa using c58))
                     (try (have c58b3: ¬ (t890=t892):=by simpa using c58))
                     clear c58;have H':=Zk H;clear H;obtain ⟨Ao59,co59,eo59⟩:=Kd.R_slice HO878.out;subst eo59;obtain ⟨Ao60,co60,eo60⟩:=Kd.R_slice HO882.out;subst eo60
                     as_aux_lemma=>
                      go_wp2_with (first|(go_at_call 64;(with_reducible refine (Qcp.calls kj25 _ _ t875 _ _ t879 true _ (uE HO878) ?side2 (uE HO882) ?side4 A56.out).mono ?_);(case side2=>exact (Kd.R_reads' HO878.out).2.1);(case side4=>exact (Kd.R_reads' HO882.out).2.1);rintro e w' ⟨rfl,⟨nd,rfl⟩⟩))
                      go_meet
                      case rel=>exact ⟨_,(true),(by first|rfl|(simp;done)|(simp [*];done)),H',⟨by have:=HJ7.out;have:=HJ19.out;have:=HJ25.out;first|omega|exact Nat.le_refl _⟩,⟨Kd.R_mono (uR HO_7) (fun _ hk=>trivial)⟩,⟨uB HB⟩⟩
                    ·
                     rw [if_neg c58] at H;have c58b0:(t890 !=t892)=false:=by simpa using c58
                     (try (have c58b1:decide (t890=t892)=true:=by simpa using c58))
                     (try (have c58b2:(t890==t892)=true:=by simpa using c58))
                     clear c58;have H':=Zk H;clear H;obtain ⟨Ao61,co61,eo61⟩:=Kd.R_slice HO878.out;subst eo61;obtain ⟨Ao62,co62,eo62⟩:=Kd.R_slice HO882.out;subst eo62
                     as_aux_lemma=>
                      go_wp2_with (first|(go_at_call 64;(with_reducible refine (Qcp.calls kj25 _ _ t875 _ _ t879 true _ (uE HO878) ?side2 (uE HO882) ?side4 A56.out).mono ?_);(case side2=>exact (Kd.R_reads' HO878.out).2.1);(case side4=>exact (Kd.R_reads' HO882.out).2.1);rintro e w' ⟨rfl,⟨nd,rfl⟩⟩))
                      go_meet
                      case rel=>exact ⟨_,((t889 !=t891)),(by first|rfl|(simp;done)|(simp [*];done)),H',⟨by have:=HJ7.out;have:=HJ19.out;have:=HJ25.out;first|omega|exact Nat.le_refl _⟩,⟨Kd.R_mono (uR HO_7) (fun _ hk=>trivial)⟩,⟨uB HB⟩⟩
                   ·
                    replace c57:=Bool.eq_false_iff.mpr c57;subst c57;rw [if_neg (show ¬ (false=true) by decide)] at H;have H':=Zk H;clear H;obtain ⟨Ao63,co63,eo63⟩:=Kd.R_slice HO878.out;subst eo63;obtain ⟨Ao64,co64,eo64⟩:=Kd.R_slice HO882.out;subst eo64
                    as_aux_lemma=>
                     go_wp2_with (first|(go_at_call 64;(with_reducible refine (Qcp.calls kj25 _ _ t875 _ _ t879 false _ (uE HO878) ?side2 (uE HO882) ?side4 A56.out).mono ?_);(case side2=>exact (Kd.R_reads' HO878.out).2.1);(case side4=>exact (Kd.R_reads' HO882.out).2.1);rintro e w' ⟨rfl,⟨nd,rfl⟩⟩))
                     go_meet
                     case rel=>exact ⟨_,(true),(by first|rfl|(simp;done)|(simp [*];done)),H',⟨by have:=HJ7.out;have:=HJ19.out;have:=HJ25.out;first|omega|exact Nat.le_refl _⟩,⟨Kd.R_mono (uR HO_7) (fun _ hk=>trivial)⟩,⟨uB HB⟩⟩
                 case rest=>as_aux_lemma=>
                  clear HC46
                  skip
                  obtain ⟨kq,x199_45,rfl,HA,HJ45,HO_7,HB⟩:=hcut;cases kq with
                  |zero=>exact absurd HA.out (by simp [laws_FnSievesOfTableaux.j3])
                  |succ kj45=>
                   have H:=HA.out;clear HA;simp only [laws_FnSievesOfTableaux.j3] at H
                   by_cases c65:x199_45=true
                   ·
                    subst c65;rw [if_pos rfl] at H;exact absurd H (by simp)
                   ·
                    replace c65:=Bool.eq_false_iff.mpr c65;subst c65;rw [if_neg (show ¬ (false=true) by decide)] at H;obtain ⟨⟨t894,t895⟩,A66,H⟩:=bs H;(try dsimp only at H)
                    obtain ⟨⟨t896,t897⟩,A67,H⟩:=bs H;(try dsimp only at H)
                    obtain ⟨⟨t898,t899⟩,A68,H⟩:=bs H;(try dsimp only at H)
                    have HC69:=Zk H;clear H
                    as_aux_lemma=>
                     go_upto_region 30 with ((with_reducible refine gt ?_);first|(refine gA (some 202) Tryz.func145 #[.slice A1 l1.length c1] ?_;(with_reducible refine (Qep.calls _ _ l1 t894 t895 _ (uD HR1 HB) HC1.out A66.out).mono ?_);rintro e w70 ⟨rfl,hb⟩;refine ⟨_,rfl,?_⟩;replace HO_7:=Zk (Kd.R_below (uR HO_7) hb);replace HB:=Zk (Qb (uB HB) hb);(try clear hb))|(refine gA (some 208) Tryz.func146 #[.int .i64 t894, .int .i64 t895] ?_;(with_reducible refine (Qdx.calls kj45 t894 t895 t896 t897 _ A67.out).mono ?_);rintro e w71 ⟨rfl,hb⟩;refine ⟨_,rfl,?_⟩;replace HO_7:=Zk (Kd.R_below (uR HO_7) hb);replace HB:=Zk (Qb (uB HB) hb);(try clear hb))|(refine gA (some 214) Tryz.func147 #[.int .i64 t894, .int .i64 t895] ?_;(with_reducible refine (Qeb.calls kj45 t894 t895 t898 t899 _ A68.out).mono ?_);rintro e w' ⟨rfl,⟨nd,rfl⟩⟩;refine ⟨_,rfl,?_⟩))
                     (try simp only [Act.put,List.setIfInBounds_toArray,List.set_cons_zero,List.set_cons_succ])
                     as_aux_lemma=>
                      go_cut [224] (fun v224 wc=> ∃ (kq:Nat) (x224_68:Bool),v224= .bool x224_68∧Z0 (laws_FnSievesOfTableaux.j4 kq t844 t845 t846 t851 t894 t895 t897 x224_68=some r)∧Z0 (kq≤kj45)∧Z0 (Kd.R (Kd.int .i64) 3 wc w.heap.size (fun _=>True) v848 t846)∧Z0 (Below w.heap.size w wc))
                      case first=>as_aux_lemma=>
                       have H:=HC69.out;clear HC69
                       by_cases c72:(t897 !=t899)=true
                       ·
                        rw [if_pos c72] at H;have c72b0:(t897 !=t899)=true:=c72
                        (try (have c72b1:decide (t897=t899)=false:=by simpa using c72))
                        (try (have c72b2:(t897==t899)=false:=by simpa using c72))
                        (try (have c72b3: ¬ (t897=t899):=by simpa using c72))
                        clear c72
                        (first|rw [c72b0] |(simp only [Qcm,Qee];rw [c72b0])|skip)
                        have H':=Zk H;clear H;go_wp2
                        go_meet
                        case rel=>exact ⟨_,(true),(by first|rfl|(simp;done)|(simp [*];done)),H',⟨by have:=HJ7.out;have:=HJ19.out;have:=HJ25.out;have:=HJ45.out;first|omega|exact Nat.le_refl _⟩,⟨uR HO_7⟩,⟨uB HB⟩⟩
                       ·
                        rw [if_neg c72] at H;have c72b0:(t897 !=t899)=false:=by simpa using c72
                        (try (have c72b1:decide (t897=t899)=true:=by simpa using c72))
                        (try (have c72b2:(t897==t899)=true:=by simpa using c72))
                        clear c72
                        (first|rw [c72b0] |(simp only [Qcm,Qee];rw [c72b0])|skip)
                        have H':=Zk H;clear H;go_wp2
                        go_meet
                        case rel=>exact ⟨_,((t896 !=t898)),(by first|rfl|(simp;done)|(simp [*];done)),H',⟨by have:=HJ7.out;have:=HJ19.out;have:=HJ25.out;have:=HJ45.out;first|omega|exact Nat.le_refl _⟩,⟨uR HO_7⟩,⟨uB HB⟩⟩
                      case rest=>as_aux_lemma=>
                       clear HC69
                       skip
                       obtain ⟨kq,x224_68,rfl,HA,HJ68,HO_7,HB⟩:=hcut;cases kq with
                       |zero=>exact absurd HA.out (by simp [laws_FnSievesOfTableaux.j4])
                       |succ kj68=>
                        have H:=HA.out;clear HA;simp only [laws_FnSievesOfTableaux.j4] at H
                        by_cases c73:x224_68=true
                        ·
                         as_aux_lemma=>
                         subst c73;rw [if_pos rfl] at H;exact absurd H (by simp)
                        ·
                         replace c73:=Bool.eq_false_iff.mpr c73;subst c73;rw [if_neg (show ¬ (false=true) by decide)] at H;have HC74:=Zk H;clear H
                         as_aux_lemma=>
                          go_upto_if 225 with (fail)
                          go_cut [] (fun wc=> ∃ (kq:Nat),Z0 (laws_FnSievesOfTableaux.j6 kq t844 t845 t846 t851=some r)∧Z0 (kq≤kj68)∧Z0 (Kd.R (Kd.int .i64) 3 wc w.heap.size (fun _=>True) v848 t846)∧Z0 (Below w.heap.size w wc))
                          case first=>as_aux_lemma=>
                           have H:=HC74.out;clear HC74
                           by_cases c75:t897=true
                           ·
                            subst c75;rw [if_pos rfl] at H;have H':=Zk H;clear H;go_wp2
                            as_aux_lemma=>
                             go_loopg [41,42] kj68 (fun kq v41 v42 w'=> ∃ (x41_6:Int) (x42_6:Int),v41= .int .i64 x41_6∧v42= .int .i64 x42_6∧Z0 (laws_FnSievesOfTableaux.l0 kq t844 t845 t846 t851 t894 t895 x41_6 x42_6=some r)∧Z0 (kq≤kj68)∧Z0 (Kd.R (Kd.int .i64) 3 w' w.heap.size (fun _=>True) v848 t846)∧Z0 (Below w.heap.size w w'))
                             case atStart=>exact ⟨(0),(1),(by first|rfl|(simp;done)|(simp [*];done)),(by first|rfl|(simp;done)|(simp [*];done)),H',⟨Nat.le_refl _⟩,⟨uR HO_7⟩,⟨uB HB⟩⟩
                             case round=>as_aux_lemma=>
                              clear H'
                              skip
                              obtain ⟨x41_6,x42_6,rfl,rfl,HA,HK6,HO_7,HB⟩:=hrel;cases gk with
                              |zero=>exact absurd HA.out (by simp [laws_FnSievesOfTableaux.l0])
                              |succ k6=>
                               have H:=HA.out;clear HA;simp only [laws_FnSievesOfTableaux.l0] at H
                               by_cases c76:x42_6≤t894
                               ·
                                as_aux_lemma=>
                                rw [if_pos c76] at H;have c76b0:=decide_eq_true c76;clear c76
                                (first|rw [c76b0] |(simp only [Qcm,Qee];rw [c76b0])|skip)
                                by_cases c77:x42_6=0
                                ·
                                 rw [if_pos c77] at H;exact absurd H (by simp)
                                ·
                                 rw [if_neg c77] at H;have c77b0:(x42_6==0)=false:=beq_eq_false_iff_ne.mpr c77;have c77b1:(x42_6 !=0)=true:=bne_iff_ne.mpr c77
                                 by_cases c78:(Int.tmod t894 x42_6)=0
                                 ·
                                  rw [if_pos c78] at H;have c78b0:((Int.tmod t894 x42_6)==0)=true:=beq_iff_eq.mpr c78;have c78b1:((Int.tmod t894 x42_6) !=0)=false:=bne_eq_false_iff_eq.mpr c78;clear c78;obtain ⟨⟨t900,t901⟩,A79,H⟩:=bs H;(try dsimp only at H)
                                  by_cases c80:t901=true
                                  ·
                                   subst c80;rw [if_pos rfl] at H;have H':=Zk H;clear H
                                   as_aux_lemma=>
                                    go_wp2_with ((with_reducible refine gt ?_);first|(refine gA (some 238) Tryz.func146 #[.int .i64 x42_6, .int .i64 t895] ?_;(with_reducible refine (Qdx.calls k6 x42_6 t895 t900 true _ A79.out).mono ?_);rintro e w81 ⟨rfl,hb⟩;refine ⟨_,rfl,?_⟩;replace HO_7:=Zk (Kd.R_below (uR HO_7) hb);replace HB:=Zk (Qb (uB HB) hb);(try clear hb)));go_roundg k6
                                    case measure=>have:=HJ7.out;have:=HJ19.out;have:=HJ25.out;have:=HJ45.out;have:=HJ68.out;have:=HK6.out;omega
                                    case rel=>exact ⟨(wrap64 (x41_6+t900)),(wrap64 (x42_6+1)),(by first|rfl|(simp;done)|(simp [*];done)),(by first|rfl|(simp;done)|(simp [*];done)),H',⟨by have:=HJ7.out;have:=HJ19.out;have:=HJ25.out;have:=HJ45.out;have:=HJ68.out;have:=HK6.out;omega⟩,⟨uR HO_7⟩,⟨uB HB⟩⟩
                                  ·
                                   replace c80:=Bool.eq_false_iff.mpr c80;subst c80;rw [if_neg (show ¬ (false=true) by decide)] at H;exact absurd H (by simp)
                                 ·
                                  rw [if_neg c78] at H;have c78b0:((Int.tmod t894 x42_6)==0)=false:=beq_eq_false_iff_ne.mpr c78;have c78b1:((Int.tmod t894 x42_6) !=0)=true:=bne_iff_ne.mpr c78;have H':=Zk H;clear H;go_wp2;go_roundg k6
                                  case measure=>have:=HJ7.out;have:=HJ19.out;have:=HJ25.out;have:=HJ45.out;have:=HJ68.out;have:=HK6.out;omega
                                  case rel=>exact ⟨(x41_6),(wrap64 (x42_6+1)),(by first|rfl|(simp;done)|(simp [*];done)),(by first|rfl|(simp;done)|(simp [*];done)),H',⟨by have:=HJ7.out;have:=HJ19.out;have:=HJ25.out;have:=HJ45.out;have:=HJ68.out;have:=HK6.out;omega⟩,⟨uR HO_7⟩,⟨uB HB⟩⟩
                               ·
                                rw [if_neg c76] at H;have c76b0:=decide_eq_false c76;clear c76
                                (first|rw [c76b0] |(simp only [Qcm,Qee];rw [c76b0])|skip)
                                by_cases c82:t894=0
                                ·
                                 rw [if_pos c82] at H;exact absurd H (by simp)
                                ·
                                 rw [if_neg c82] at H;have c82b0:(t894==0)=false:=beq_eq_false_iff_ne.mpr c82;have c82b1:(t894 !=0)=true:=bne_iff_ne.mpr c82
                                 by_cases c83:(Int.tmod t895 t894)=0
                                 ·
                                  rw [if_pos c83] at H;have c83b0:((Int.tmod t895 t894)==0)=true:=beq_iff_eq.mpr c83;have c83b1:((Int.tmod t895 t894) !=0)=false:=bne_eq_false_iff_eq.mpr c83;clear c83
                                  by_cases c84:x41_6=t894
                                  ·
                                   rw [if_pos c84] at H;have c84b0:(x41_6==t894)=true:=beq_iff_eq.mpr c84;have c84b1:(x41_6 !=t894)=false:=bne_eq_false_iff_eq.mpr c84;clear c84;have H':=Zk H;clear H;go_wp2
                                   go_meet
                                   case rel=>exact ⟨_,H',⟨by have:=HJ7.out;have:=HJ19.out;have:=HJ25.out;have:=HJ45.out;have:=HJ68.out;have:=HK6.out;first|omega|exact Nat.le_refl _⟩,⟨uR HO_7⟩,⟨uB HB⟩⟩
                                  ·
                                   rw [if_neg c84] at H;exact absurd H (by simp)
                                 ·
                                  rw [if_neg c83] at H;have c83b0:((Int.tmod t895 t894)==0)=false:=beq_eq_false_iff_ne.mpr c83;have c83b1:((Int.tmod t895 t894) !=0)=true:=bne_iff_ne.mpr c83
                                  by_cases c85:x41_6=0
                                  ·
                                   rw [if_pos c85] at H;have c85b0:(x41_6==0)=true:=beq_iff_eq.mpr c85;have c85b1:(x41_6 !=0)=false:=bne_eq_false_iff_eq.mpr c85;clear c85;have H':=Zk H;clear H;go_wp2
                                   go_meet
                                   case rel=>exact ⟨_,H',⟨by have:=HJ7.out;have:=HJ19.out;have:=HJ25.out;have:=HJ45.out;have:=HJ68.out;have:=HK6.out;first|omega|exact Nat.le_refl _⟩,⟨uR HO_7⟩,⟨uB HB⟩⟩
                                  ·
                                   rw [if_neg c85] at H;exact absurd H (by simp)
                           ·
                            replace c75:=Bool.eq_false_iff.mpr c75;subst c75;rw [if_neg (show ¬ (false=true) by decide)] at H;have H':=Zk H;clear H;go_wp2
                            go_meet
                            case rel=>exact ⟨_,H',⟨by have:=HJ7.out;have:=HJ19.out;have:=HJ25.out;have:=HJ45.out;have:=HJ68.out;first|omega|exact Nat.le_refl _⟩,⟨uR HO_7⟩,⟨uB HB⟩⟩
                          case rest=>as_aux_lemma=>
                           clear HC74
                           skip
                           obtain ⟨kq,HA,HJ73,HO_7,HB⟩:=hcut;cases kq with
                           |zero=>exact absurd HA.out (by simp [laws_FnSievesOfTableaux.j6])
                           |succ kj73=>
                            have H:=HA.out;clear HA;simp only [laws_FnSievesOfTableaux.j6] at H
                            by_cases c86:t851=true
                            ·
                             subst c86;rw [if_pos rfl] at H;obtain ⟨⟨t902,t903⟩,A87,H⟩:=bs H;(try dsimp only at H)
                             obtain ⟨⟨t906,t907⟩,A88,H⟩:=bs H;(try dsimp only at H)
                             obtain ⟨⟨t910,t911⟩,A89,H⟩:=bs H;(try dsimp only at H)
                             obtain ⟨⟨t912,t913⟩,A90,H⟩:=bs H;(try dsimp only at H)
                             have HC91:=Zk H;clear H
                             as_aux_lemma=>
                              go_upto_region 53 with ((with_reducible refine gt ?_);first|(refine gA (some 259) Tryz.func119 #[.int .i64 t844, .int .i64 t845] ?_;(with_reducible refine (Qcw.calls kj73 t844 t845 t902 t903 _ A87.out).mono ?_);rintro e w92 ⟨v904,rfl,ho0,hb⟩;refine ⟨_,rfl,?_⟩;have HO905:=Zk (Kd.Q_lower (Kd.Q_new' ho0 (Kd.R_lt (uR HO_7))) (Qh (uB HB)));replace HO_7:=Zk (Kd.R_elder' (uR HO_7) (Kd.Q_base ho0) hb);replace HB:=Zk (Qb (uB HB) hb);(try clear hb ho0);obtain ⟨Ao93,co93,eo93,_⟩:=Kd.Q_slice HO905.out;subst eo93)|(refine gA (some 267) Tryz.func68 #[.slice Ao93 t902.length co93, .int .i64 (wrap64 (t844*t845))] ?_;(with_reducible refine (Q7.calls kj73 _ _ t902 (wrap64 (t844*t845)) t906 t907 _ ?side1 ?side2 A88.out).mono ?_);(case side1=>repeat (first|exact (Kd.Q_reads' HO905.out).2.2|(with_reducible refine Kd.C_alloc ?_ _)|(with_reducible refine Kd.C_drewN ?_ _)|(with_reducible refine Kd.C_drew ?_)));(case side2=>exact (Kd.Q_reads' HO905.out).2.1);rintro e w94 ⟨v908,rfl,ho0,hb⟩;refine ⟨_,rfl,?_⟩;have HO909:=Zk (Kd.R_lower (Kd.R_new' (Kd.R_new' ho0 (Kd.R_lt (uR HO_7))) (Kd.Q_lt (by (with_reducible repeat (first|apply Kd.Q_alloc|apply Kd.Q_drewN|apply Kd.Q_drew));exact HO905.out))) (Qh (uB HB)));replace HO_7:=Zk (Kd.R_elder' (uR HO_7) (Kd.R_base ho0) hb);replace HO905:=Zk (Kd.Q_elder' (by (with_reducible repeat (first|apply Kd.Q_alloc|apply Kd.Q_drewN|apply Kd.Q_drew));exact HO905.out) (Kd.R_base ho0) hb);replace HB:=Zk (Qb (uB HB) hb);(try clear hb ho0);obtain ⟨Ao95,co95,eo95⟩:=Kd.R_slice HO909.out;subst eo95;obtain ⟨Ao96,co96,eo96⟩:=Kd.R_slice HO_7.out;subst eo96)|(refine gA (some 273) Tryz.func76 #[.slice Ao95 t906.length co95, .slice Ao96 t846.length co96] ?_;(with_reducible refine (Qbh.calls _ _ t906 _ _ t846 t910 t911 _ (uE HO909) ?side2 (uE HO_7) ?side4 A89.out).mono ?_);(case side2=>exact (Kd.R_reads' HO909.out).2.1);(case side4=>exact (Kd.R_reads' HO_7.out).2.1);rintro e w97 ⟨rfl,hb⟩;refine ⟨_,rfl,?_⟩;replace HO_7:=Zk (Kd.R_below (uR HO_7) hb);replace HO905:=Zk (Kd.Q_below (by (with_reducible repeat (first|apply Kd.Q_alloc|apply Kd.Q_drewN|apply Kd.Q_drew));exact HO905.out) hb);replace HO909:=Zk (Kd.R_below (uR HO909) hb);replace HB:=Zk (Qb (uB HB) hb);(try clear hb))|(refine gA (some 278) Tryz.func141 #[.slice Ao95 t906.length co95] ?_;(with_reducible refine (Qm.calls kj73 _ _ t906 t912 t913 _ (uE HO909) ?side2 A90.out).mono ?_);(case side2=>exact (Kd.R_reads' HO909.out).2.1);rintro e w98 ⟨v914,rfl,ho0,hb⟩;refine ⟨_,rfl,?_⟩;have HO915:=Zk (Kd.R_lower (Kd.R_new' (Kd.R_new' (Kd.R_new' ho0 (Kd.R_lt (uR HO_7))) (Kd.Q_lt (by (with_reducible repeat (first|apply Kd.Q_alloc|apply Kd.Q_drewN|apply Kd.Q_drew));exact HO905.out))) (Kd.R_lt (uR HO909))) (Qh (uB HB)));replace HO_7:=Zk (Kd.R_elder' (uR HO_7) (Kd.R_base ho0) hb);replace HO905:=Zk (Kd.Q_elder' (by (with_reducible repeat (first|apply Kd.Q_alloc|apply Kd.Q_drewN|apply Kd.Q_drew));exact HO905.out) (Kd.R_base ho0) hb);replace HO909:=Zk (Kd.R_elder' (uR HO909) (Kd.R_base ho0) hb);replace HB:=Zk (Qb (uB HB) hb);(try clear hb ho0)))
                              (try simp only [Act.put,List.setIfInBounds_toArray,List.set_cons_zero,List.set_cons_succ])
                              as_aux_lemma=>
                               go_cut [298] (fun v298 wc=> ∃ (kq:Nat) (x298_90:Bool),v298= .bool x298_90∧Z0 (laws_FnSievesOfTableaux.j7 kq t844 t845 t846 t912 x298_90=some r)∧Z0 (kq≤kj73)∧Z0 (Kd.R (Kd.int .i64) 3 wc w.heap.size (fun k_=>some k_≠(v914:Value).ownBlock) (.slice Ao96 t846.length co96) t846)∧Z0 (Kd.R (Kd.int .i64) 3 wc w.heap.size (fun k_=>some k_≠((.slice Ao96 t846.length co96):Value).ownBlock) v914 t912)∧Z0 (Below w.heap.size w wc))
                               case first=>as_aux_lemma=>
                                have H:=HC91.out;clear HC91
                                by_cases c99:t903=true
                                ·
                                 as_aux_lemma=>
                                 subst c99;rw [if_pos rfl] at H
                                 by_cases c100:t907=true
                                 ·
                                  subst c100;rw [if_pos rfl] at H
                                  by_cases c101:t911=true
                                  ·
                                   subst c101;rw [if_pos rfl] at H
                                   by_cases c102:t913=true
                                   ·
                                    subst c102;rw [if_pos rfl] at H;have H':=Zk H;clear H;go_wp2
                                    go_meet
                                    case rel=>exact ⟨_,(!t910),(by first|rfl|(simp;done)|(simp [*];done)),H',⟨by have:=HJ7.out;have:=HJ19.out;have:=HJ25.out;have:=HJ45.out;have:=HJ68.out;have:=HJ73.out;first|omega|exact Nat.le_refl _⟩,⟨Kd.R_mono (uR HO_7) (fun _ hk=>hk.2)⟩,⟨Kd.R_mono (uR HO915) (fun _ hk=>hk.1.1.2)⟩,⟨uB HB⟩⟩
                                   ·
                                    replace c102:=Bool.eq_false_iff.mpr c102;subst c102;rw [if_neg (show ¬ (false=true) by decide)] at H;have H':=Zk H;clear H;go_wp2
                                    go_meet
                                    case rel=>exact ⟨_,(true),(by first|rfl|(simp;done)|(simp [*];done)),H',⟨by have:=HJ7.out;have:=HJ19.out;have:=HJ25.out;have:=HJ45.out;have:=HJ68.out;have:=HJ73.out;first|omega|exact Nat.le_refl _⟩,⟨Kd.R_mono (uR HO_7) (fun _ hk=>hk.2)⟩,⟨Kd.R_mono (uR HO915) (fun _ hk=>hk.1.1.2)⟩,⟨uB HB⟩⟩
                                  ·
                                   replace c101:=Bool.eq_false_iff.mpr c101;subst c101;rw [if_neg (show ¬ (false=true) by decide)] at H;have H':=Zk H;clear H;go_wp2
                                   go_meet
                                   case rel=>exact ⟨_,(true),(by first|rfl|(simp;done)|(simp [*];done)),H',⟨by have:=HJ7.out;have:=HJ19.out;have:=HJ25.out;have:=HJ45.out;have:=HJ68.out;have:=HJ73.out;first|omega|exact Nat.le_refl _⟩,⟨Kd.R_mono (uR HO_7) (fun _ hk=>hk.2)⟩,⟨Kd.R_mono (uR HO915) (fun _ hk=>hk.1.1.2)⟩,⟨uB HB⟩⟩
                                 ·
                                  replace c100:=Bool.eq_false_iff.mpr c100;subst c100;rw [if_neg (show ¬ (false=true) by decide)] at H;have H':=Zk H;clear H;go_wp2
                                  go_meet
                                  case rel=>exact ⟨_,(true),(by first|rfl|(simp;done)|(simp [*];done)),H',⟨by have:=HJ7.out;have:=HJ19.out;have:=HJ25.out;have:=HJ45.out;have:=HJ68.out;have:=HJ73.out;first|omega|exact Nat.le_refl _⟩,⟨Kd.R_mono (uR HO_7) (fun _ hk=>hk.2)⟩,⟨Kd.R_mono (uR HO915) (fun _ hk=>hk.1.1.2)⟩,⟨uB HB⟩⟩
                                ·
                                 replace c99:=Bool.eq_false_iff.mpr c99;subst c99;rw [if_neg (show ¬ (false=true) by decide)] at H;have H':=Zk H;clear H;go_wp2
                                 go_meet
                                 case rel=>exact ⟨_,(true),(by first|rfl|(simp;done)|(simp [*];done)),H',⟨by have:=HJ7.out;have:=HJ19.out;have:=HJ25.out;have:=HJ45.out;have:=HJ68.out;have:=HJ73.out;first|omega|exact Nat.le_refl _⟩,⟨Kd.R_mono (uR HO_7) (fun _ hk=>hk.2)⟩,⟨Kd.R_mono (uR HO915) (fun _ hk=>hk.1.1.2)⟩,⟨uB HB⟩⟩
                               case rest=>as_aux_lemma=>
                                clear HC91
                                skip
                                obtain ⟨kq,x298_90,rfl,HA,HJ90,HO_7,HO_52,HB⟩:=hcut;cases kq with
                                |zero=>exact absurd HA.out (by simp [laws_FnSievesOfTableaux.j7])
                                |succ kj90=>
                                 have H:=HA.out;clear HA;simp only [laws_FnSievesOfTableaux.j7] at H
                                 by_cases c103:x298_90=true
                                 ·
                                  subst c103;rw [if_pos rfl] at H;exact absurd H (by simp)
                                 ·
                                  replace c103:=Bool.eq_false_iff.mpr c103;subst c103;rw [if_neg (show ¬ (false=true) by decide)] at H;have H':=Zk H;clear H;go_wp2
                                  as_aux_lemma=>
                                   go_loopg [54,55] kj90 (fun kq v54 v55 w'=> ∃ (x54_8:Int) (x55_8:Int),v54= .int .i64 x54_8∧v55= .int .i64 x55_8∧Z0 (laws_FnSievesOfTableaux.l1 kq t844 t845 t846 t912 x54_8 x55_8=some r)∧Z0 (kq≤kj90)∧Z0 (Kd.R (Kd.int .i64) 3 w' w.heap.size (fun k_=>some k_≠(v914:Value).ownBlock) (.slice Ao96 t846.length co96) t846)∧Z0 (Kd.R (Kd.int .i64) 3 w' w.heap.size (fun k_=>some k_≠((.slice Ao96 t846.length co96):Value).ownBlock) v914 t912)∧Z0 (Below w.heap.size w w'))
                                   case atStart=>exact ⟨(0),(1),(by first|rfl|(simp;done)|(simp [*];done)),(by first|rfl|(simp;done)|(simp [*];done)),H',⟨Nat.le_refl _⟩,⟨uR HO_7⟩,⟨uR HO_52⟩,⟨uB HB⟩⟩
                                   case round=>as_aux_lemma=>
                                    clear H'
                                    skip
                                    obtain ⟨x54_8,x55_8,rfl,rfl,HA,HK8,HO_7,HO_52,HB⟩:=hrel;cases gk with
                                    |zero=>exact absurd HA.out (by simp [laws_FnSievesOfTableaux.l1])
                                    |succ k8=>
                                     have H:=HA.out;clear HA;simp only [laws_FnSievesOfTableaux.l1] at H
                                     by_cases c104:x55_8≤(wrap64 (t844*t845))
                                     ·
                                      rw [if_pos c104] at H;have c104b0:=decide_eq_true c104;clear c104
                                      by_cases c105:x55_8=0
                                      ·
                                       as_aux_lemma=>
                                       rw [if_pos c105] at H;exact absurd H (by simp)
                                      ·
                                       rw [if_neg c105] at H;have c105b0:(x55_8==0)=false:=beq_eq_false_iff_ne.mpr c105;have c105b1:(x55_8 !=0)=true:=bne_iff_ne.mpr c105
                                       by_cases c106:(Int.tmod (wrap64 (t844*t845)) x55_8)>0
                                       ·
                                        rw [if_pos c106] at H;have c106b0:=decide_eq_true c106;clear c106;have H':=Zk H;clear H;go_wp2;go_roundg k8
                                        case measure=>have:=HJ7.out;have:=HJ19.out;have:=HJ25.out;have:=HJ45.out;have:=HJ68.out;have:=HJ73.out;have:=HJ90.out;have:=HK8.out;omega
                                        case rel=>exact ⟨(x54_8),(wrap64 (x55_8+1)),(by first|rfl|(simp;done)|(simp [*];done)),(by first|rfl|(simp;done)|(simp [*];done)),H',⟨by have:=HJ7.out;have:=HJ19.out;have:=HJ25.out;have:=HJ45.out;have:=HJ68.out;have:=HJ73.out;have:=HJ90.out;have:=HK8.out;omega⟩,⟨uR HO_7⟩,⟨uR HO_52⟩,⟨uB HB⟩⟩
                                       ·
                                        rw [if_neg c106] at H;have c106b0:=decide_eq_false c106;clear c106;have H':=Zk H;clear H;go_wp2
                                        as_aux_lemma=>
                                         go_loopg [56,314] k8 (fun kq v56 v314 w'=> ∃ (x56_9:Int) (x314_9:Int),v56= .int .i64 x56_9∧v314= .int .i64 x314_9∧Z0 (laws_FnSievesOfTableaux.l2 kq t844 t845 t846 t912 x54_8 x55_8 x56_9 t846 (t846.length:Int) x314_9=some r)∧Z0 (kq≤k8)∧Z0 (Kd.R (Kd.int .i64) 3 w' w.heap.size (fun k_=>some k_≠(v914:Value).ownBlock) (.slice Ao96 t846.length co96) t846)∧Z0 (Kd.R (Kd.int .i64) 3 w' w.heap.size (fun k_=>some k_≠((.slice Ao96 t846.length co96):Value).ownBlock∧some k_≠((.slice Ao96 t846.length co96):Value).ownBlock) v914 t912)∧Z0 (Kd.R (Kd.int .i64) 3 w' w.heap.size (fun k_=>some k_≠(v914:Value).ownBlock) (.slice Ao96 t846.length co96) t846)∧Z0 (Below w.heap.size w w'))
                                         case atStart=>exact ⟨(0),(0),(by first|rfl|(simp;done)|(simp [*];done)),(by first|rfl|(simp;done)|(simp [*];done)),H',⟨Nat.le_refl _⟩,⟨uR HO_7⟩,⟨Kd.R_mono (uR HO_52) (fun _ hk=>⟨hk,hk⟩)⟩,⟨uR HO_7⟩,⟨uB HB⟩⟩
                                         case round=>as_aux_lemma=>
                                          clear H'
                                          try clear c104b0 c105 c105b0 c105b1 c106b0
                                          obtain ⟨x56_9,x314_9,rfl,rfl,HA,HK9,HO_7,HO_52,HO_312,HB⟩:=hrel;cases gk with
                                          |zero=>exact absurd HA.out (by simp [laws_FnSievesOfTableaux.l2])
                                          |succ k9=>
                                           have H:=HA.out;clear HA;simp only [laws_FnSievesOfTableaux.l2] at H
                                           by_cases c107:x314_9<(t846.length:Int)
                                           ·
                                            rw [if_pos c107] at H;have c107b0:=decide_eq_true c107;clear c107
                                            by_cases c108:0≤x314_9
                                            ·
                                             as_aux_lemma=>
                                             rw [if_pos c108] at H;have c108b0:=decide_eq_true c108;clear c108
                                             by_cases c109:x314_9<(t846.length:Int)
                                             ·
                                              rw [if_pos c109] at H;have c109b0:=decide_eq_true c109;clear c109
                                              by_cases c110:(rd t846 x314_9)=x55_8
                                              ·
                                               rw [if_pos c110] at H;have c110b0:((rd t846 x314_9)==x55_8)=true:=beq_iff_eq.mpr c110;have c110b1:((rd t846 x314_9) !=x55_8)=false:=bne_eq_false_iff_eq.mpr c110;clear c110;have H':=Zk H;clear H;have p916:0≤(x314_9:Int):=of_decide_eq_true (by first|(with_reducible assumption)|assumption);have q916:x314_9<(t846.length:Int):=of_decide_eq_true (by first|(with_reducible assumption)|assumption);obtain ⟨ad916,e916,hx916_0⟩:=Kd.at_int (Kd.R_reads' HO_312.out).2.2 x314_9 p916 q916;cases e916;replace p916:=eq_true p916;replace q916:=eq_true q916;go_wp2;go_roundg k9
                                               case measure=>have:=HJ7.out;have:=HJ19.out;have:=HJ25.out;have:=HJ45.out;have:=HJ68.out;have:=HJ73.out;have:=HJ90.out;have:=HK8.out;have:=HK9.out;omega
                                               case rel=>exact ⟨(wrap64 (x56_9+1)),(wrap64 (x314_9+1)),(by first|rfl|(simp;done)|(simp [*];done)),(by first|rfl|(simp;done)|(simp [*];done)),H',⟨by have:=HJ7.out;have:=HJ19.out;have:=HJ25.out;have:=HJ45.out;have:=HJ68.out;have:=HJ73.out;have:=HJ90.out;have:=HK8.out;have:=HK9.out;omega⟩,⟨uR HO_7⟩,⟨uR HO_52⟩,⟨uR HO_312⟩,⟨uB HB⟩⟩
                                              ·
                                               rw [if_neg c110] at H;have c110b0:((rd t846 x314_9)==x55_8)=false:=beq_eq_false_iff_ne.mpr c110;have c110b1:((rd t846 x314_9) !=x55_8)=true:=bne_iff_ne.mpr c110;have H':=Zk H;clear H;have p916:0≤(x314_9:Int):=of_decide_eq_true (by first|(with_reducible assumption)|assumption);have q916:x314_9<(t846.length:Int):=of_decide_eq_true (by first|(with_reducible assumption)|assumption);obtain ⟨ad916,e916,hx916_0⟩:=Kd.at_int (Kd.R_reads' HO_312.out).2.2 x314_9 p916 q916;cases e916;replace p916:=eq_true p916;replace q916:=eq_true q916;go_wp2;go_roundg k9
                                               case measure=>have:=HJ7.out;have:=HJ19.out;have:=HJ25.out;have:=HJ45.out;have:=HJ68.out;have:=HJ73.out;have:=HJ90.out;have:=HK8.out;have:=HK9.out;omega
                                               case rel=>exact ⟨(x56_9),(wrap64 (x314_9+1)),(by first|rfl|(simp;done)|(simp [*];done)),(by first|rfl|(simp;done)|(simp [*];done)),H',⟨by have:=HJ7.out;have:=HJ19.out;have:=HJ25.out;have:=HJ45.out;have:=HJ68.out;have:=HJ73.out;have:=HJ90.out;have:=HK8.out;have:=HK9.out;omega⟩,⟨uR HO_7⟩,⟨uR HO_52⟩,⟨uR HO_312⟩,⟨uB HB⟩⟩
                                             ·
                                              rw [if_neg c109] at H;exact absurd H (by simp)
                                            ·
                                             rw [if_neg c108] at H;exact absurd H (by simp)
                                           ·
                                            rw [if_neg c107] at H;have c107b0:=decide_eq_false c107;clear c107
                                            by_cases c111:0≤x54_8
                                            ·
                                             as_aux_lemma=>
                                             rw [if_pos c111] at H;have c111b0:=decide_eq_true c111;clear c111
                                             by_cases c112:x54_8<(t912.length:Int)
                                             ·
                                              rw [if_pos c112] at H;have c112b0:=decide_eq_true c112;clear c112
                                              by_cases c113:(rd t912 x54_8)=x56_9
                                              ·
                                               rw [if_pos c113] at H;have c113b0:((rd t912 x54_8)==x56_9)=true:=beq_iff_eq.mpr c113;have c113b1:((rd t912 x54_8) !=x56_9)=false:=bne_eq_false_iff_eq.mpr c113;clear c113;have H':=Zk H;clear H;obtain ⟨Ao114,co114,eo114⟩:=Kd.R_slice HO_52.out;subst eo114;have p917:0≤(x54_8:Int):=of_decide_eq_true (by first|(with_reducible assumption)|assumption);have q917:x54_8<(t912.length:Int):=of_decide_eq_true (by first|(with_reducible assumption)|assumption);obtain ⟨ad917,e917,hx917_0⟩:=Kd.at_int (Kd.R_reads' HO_52.out).2.2 x54_8 p917 q917;cases e917;replace p917:=eq_true p917;replace q917:=eq_true q917;go_wp2;go_roundg k9
                                               case measure=>have:=HJ7.out;have:=HJ19.out;have:=HJ25.out;have:=HJ45.out;have:=HJ68.out;have:=HJ73.out;have:=HJ90.out;have:=HK8.out;have:=HK9.out;omega
                                               case rel=>exact ⟨(wrap64 (x54_8+1)),(wrap64 (x55_8+1)),(by first|rfl|(simp;done)|(simp [*];done)),(by first|rfl|(simp;done)|(simp [*];done)),H',⟨by have:=HJ7.out;have:=HJ19.out;have:=HJ25.out;have:=HJ45.out;have:=HJ68.out;have:=HJ73.out;have:=HJ90.out;have:=HK8.out;have:=HK9.out;omega⟩,⟨uR HO_7⟩,⟨Kd.R_mono (uR HO_52) (fun _ hk=>hk.1)⟩,⟨uB HB⟩⟩
                                              ·
                                               rw [if_neg c113] at H;exact absurd H (by simp)
                                             ·
                                              rw [if_neg c112] at H;exact absurd H (by simp)
                                            ·
                                             rw [if_neg c111] at H;exact absurd H (by simp)
                                     ·
                                      rw [if_neg c104] at H;have c104b0:=decide_eq_false c104;clear c104;obtain rfl:=Option.some.inj H;obtain ⟨Ao115,co115,eo115⟩:=Kd.R_slice HO_52.out;subst eo115;go_wp2
                                      go_ret
                                      exact ⟨by first|rfl|(simp [Qe,Qf] <;>rfl)|(simp [*,Qe,Qf] <;>rfl),uB HB⟩
                            ·
                             replace c86:=Bool.eq_false_iff.mpr c86;subst c86;rw [if_neg (show ¬ (false=true) by decide)] at H;obtain rfl:=Option.some.inj H;go_wp2
                             go_ret
                             exact ⟨by first|rfl|(simp [Qe,Qf] <;>rfl)|(simp [*,Qe,Qf] <;>rfl),uB HB⟩
def laws_FnSievesOfTableaux.Pure:Prop:= ∀ (l0:List Int) (l1:List Int),l0.length≤maxLen→l0.length*1≤140737488351232→(∀ x ∈ l0,(Lit.int .u8 x).wf=true)→l1.length≤maxLen→l1.length*1≤140737488351232→(∀ x ∈ l1,(Lit.int .u8 x).wf=true)→ ∃ k,laws_FnSievesOfTableaux.f k l0 l1=some true
theorem laws_FnSievesOfTableaux.walk (P:laws_FnSievesOfTableaux.Pure) (a0:Option Addr) (len0 cap0:Nat) (z0:List Int) (a1:Option Addr) (len1 cap1:Nat) (z1:List Int) (w:World) (w0:(a0=none∧len0=0∧cap0=0∧z0= [])∨ ∃ x,a0=some x∧len0≤cap0∧cap0≤maxLen∧z0.length=cap0∧(∀ i,i<z0.length→w.cell? (x.add i)=some (.int .u8 (z0.getD i 0)))∧ ∀ n ∈ z0,(Lit.int .u8 n).wf=true) (y0:len0*1≤140737488351232) (w1:(a1=none∧len1=0∧cap1=0∧z1= [])∨ ∃ x,a1=some x∧len1≤cap1∧cap1≤maxLen∧z1.length=cap1∧(∀ i,i<z1.length→w.cell? (x.add i)=some (.int .u8 (z1.getD i 0)))∧ ∀ n ∈ z1,(Lit.int .u8 n).wf=true) (y1:len1*1≤140737488351232):
 Calls Tryz.prog 9 #[.slice a0 len0 cap0, .slice a1 len1 cap1] w fun e w'=>e= .returned (.bool true)∧Below w.heap.size w w':=by
 obtain ⟨l0,rfl,hr0,hm0,hw0,hc0⟩:=Qdk.ofRowC w0;obtain ⟨l1,rfl,hr1,hm1,hw1,hc1⟩:=Qdk.ofRowC w1;obtain ⟨k,h⟩:=P l0 l1 hm0 y0 hw0 hm1 y1 hw1;refine (laws_FnSievesOfTableaux.calls k _ _ l0 _ _ l1 true w (Kd.C_of_reads (d:=(0:Int)) (h1:=fun _=>rfl) hr0) hc0 (Kd.C_of_reads (d:=(0:Int)) (h1:=fun _=>rfl) hr1) hc1 h).mono ?_;rintro e w' ⟨rfl,hd⟩;exact ⟨rfl,hd⟩
end Go.Proofs.YtkgngggppcmpfaaGreat.L
end
section
namespace Go.Proofs.YtkgngggppcmpfaaGreat.M
open Go.RowKit Go.Proofs.YtkgngggppcmpfaaGreatW.PrintWords Go.Proofs.YtkgngggppcmpfaaGreatW.PrintLast Go.Proofs.YtkgngggppcmpfaaGreatW.PrintMore
theorem Qd6 {x:Int} (h0: -9223372036854775808≤x) (h1:x≤9223372036854775807):wrap64 x=x:=by unfold wrap64;omega
theorem Qd7 {i:Nat} (h:i<9223372036854775807):wrap64 ((i:Int)+1)=((i+1:Nat):Int):=by unfold wrap64;omega
theorem Qe8 {l:List Int} {i:Nat} (h:i<l.length):rd l (i:Int)=l[i] :=by simp [rd,List.getD_eq_getElem?_getD,h]
theorem Qg1 {α:Type} {g:Nat→Option α} {r r':α} (h:Ev g r) (h':Ev g r'):r=r':=by
 obtain ⟨K, h⟩ := h; obtain ⟨K', h'⟩ := h'
 have a := h (max K K') (by omega); have b := h' (max K K') (by omega)
 exact Option.some.inj (a.symm.trans b)
theorem Qei {α:Type} {c:Prop} [Decidable c] {f g:Nat→Option α} {r:α} (h1:c→Ev f r) (h2: ¬ c→Ev g r):Ev (fun k=>if c then f k else g k) r:=by
 by_cases h : c
 ·
  obtain ⟨K, hK⟩ := h1 h; exact ⟨K, fun k hk => by simp only [if_pos h]; exact hK k hk⟩
 ·
  obtain ⟨K, hK⟩ := h2 h; exact ⟨K, fun k hk => by simp only [if_neg h]; exact hK k hk⟩
theorem Qbf {α:Type} {c:Prop} [Decidable c] {f g:Nat→Option α} {r:α} (h:c) (h1:Ev f r):Ev (fun k=>if c then f k else g k) r:=Qei (fun _=>h1) (fun h2=>absurd h h2)
theorem Qb6 {α:Type} {c:Prop} [Decidable c] {f g:Nat→Option α} {r:α} (h: ¬ c) (h1:Ev g r):Ev (fun k=>if c then f k else g k) r:=Qei (fun h2=>absurd h2 h) (fun _=>h1)
theorem Qbw {α β:Type} {x:Option α} {a:α} {f:Nat→α→Option β} {r:β} (h:x=some a) (k:Ev (fun n=>f n a) r):Ev (fun n=>x.bind (f n)) r:=by subst h;simpa using k
def inB (x lo hi:Int):Bool:=decide (lo≤x) && decide (x≤hi)
theorem Qdw {x lo hi:Int} :inB x lo hi=true ↔ lo≤x∧x≤hi:=by simp [inB]
end Go.Proofs.YtkgngggppcmpfaaGreat.M
end
section
namespace Go.Proofs.YtkgngggppcmpfaaGreat.M
open Go.RowKit Go.Proofs.YtkgngggppcmpfaaGreatW.PrintWords Go.Proofs.YtkgngggppcmpfaaGreatW.PrintLast Go.Proofs.YtkgngggppcmpfaaGreatW.PrintMore Go.Proofs.YtkgngggppcmpfaaGreat.L
theorem Qe6 (x lo hi:Int):Qbz.f x lo hi=some (inB x lo hi):=by
 unfold Qbz.f inB
 by_cases h : lo ≤ x <;> simp [h]
theorem Qe2 (x lo hi:Int):Qbv.f x lo hi=some (inB x lo hi):=by
 unfold Qbv.f inB
 by_cases h : lo ≤ x <;> simp [h]
theorem Qiz (l:List Int) (lo hi:Int) (hl:l.length≤9223372036854775806): ∀ (d i:Nat),i+d=l.length→Ev (fun k=>Qb3.l0 k lo hi l (l.length:Int) i) ((l.drop i).all (inB · lo hi))
 | 0, i, h => by
  refine Ev.step (fun _ => rfl) (Qb6 (by omega) ?_)
  rw [List.drop_of_length_le (by omega)]; exact Ev.now _
 | d + 1, i, h => by
  refine Ev.step (fun _ => rfl) (Qbf (by omega) (Qbf (by omega) (Qbf (by omega) (Qbw (Qe6 _ _ _) ?_))))
  rw [Qe8 (by omega : i < l.length), Qd7 (by omega), List.drop_eq_getElem_cons (by omega : i < l.length), List.all_cons]
  refine Qei (fun e => ?_) (fun e => ?_)
  ·
   rw [e, Bool.true_and]; exact Qiz l lo hi hl d (i + 1) (by omega)
  ·
   rw [Bool.eq_false_iff.mpr e, Bool.false_and]; exact Ev.now _
theorem Qhq (l:List Int) (lo hi:Int) (hl:l.length≤9223372036854775806):Ev (fun k=>Qb3.f k l lo hi) (l.all (inB · lo hi)):=Qiz l lo hi hl l.length 0 (by omega)
end Go.Proofs.YtkgngggppcmpfaaGreat.M
end
section
namespace Go.Proofs.YtkgngggppcmpfaaGreat.M
open Go.RowKit Go.Proofs.YtkgngggppcmpfaaGreatW.PrintWords Go.Proofs.YtkgngggppcmpfaaGreatW.PrintLast Go.Proofs.YtkgngggppcmpfaaGreatW.PrintMore Go.Proofs.YtkgngggppcmpfaaGreat.L
set_option linter.unusedVariables false
def Qdt (a b:Int):Bool:=inB a 1 10 && inB b 1 10 && decide (a*b≤10)
def Qgl (f:Int→Int→Bool):Bool:=(List.range' 1 10).all fun a=>(List.range' 1 10).all fun b=> !(decide (a*b≤10))||f (a:Int) (b:Int)
theorem Qhi {f:Int→Int→Bool} (h:Qgl f=true) {a b:Int} (hs:Qdt a b=true):f a b=true:=by
 unfold Qdt at hs
 rw [Bool.and_eq_true, Bool.and_eq_true, Qdw, Qdw, decide_eq_true_eq] at hs
 obtain ⟨⟨h1, h2⟩, h3⟩ := hs
 obtain ⟨m, rfl⟩ : ∃ m : Nat, a = (m : Int) := ⟨a.toNat, by omega⟩
 obtain ⟨n, rfl⟩ : ∃ n : Nat, b = (n : Int) := ⟨b.toNat, by omega⟩
 unfold Qgl at h
 rw [List.all_eq_true] at h
 have h4 := h m (by rw [List.mem_range'_1]; omega)
 rw [List.all_eq_true] at h4
 have h5 := h4 n (by rw [List.mem_range'_1]; omega)
 have h6' : ((m * n : Nat) : Int) ≤ 10 := by rw [Int.natCast_mul]; exact h3
 have h6 : m * n ≤ 10 := by omega
 rw [Bool.or_eq_true, Bool.not_eq_true', decide_eq_false_iff_not] at h5
 rcases h5 with h5 | h5
 ·
  exact absurd h6 h5
 ·
  exact h5
theorem Qie {a b:Int} (h1:inB a 1 10=true) (h2:inB b 1 10=true):wrap64 (a*b)=a*b:=by
 have b1 := Qdw.mp h1
 have b2 := Qdw.mp h2
 have h3 : 0 ≤ a * b := Int.mul_nonneg (by omega) (by omega)
 have h4 : a * b ≤ 10 * 10 := Int.mul_le_mul b1.2 b2.2 (by omega) (by omega)
 exact Qd6 (by omega) (by omega)
theorem Qex (a b:Int):Qcu.f a b=some (Qdt a b):=by
 unfold Qcu.f Qdt
 rw [Qe6, Qe6]
 cases h1 : inB a 1 10
 ·
  rfl
 ·
  cases h2 : inB b 1 10
  ·
   rfl
  ·
   rw [Qie h1 h2]; rfl
theorem Qeq (a b:Int):Qdm.f a b 10=some (Qdt a b):=by
 unfold Qdm.f Qdt
 rw [Qe2, Qe2]
 cases h1 : inB a 1 10
 ·
  rfl
 ·
  cases h2 : inB b 1 10
  ·
   rfl
  ·
   rw [Qie h1 h2]; rfl
end Go.Proofs.YtkgngggppcmpfaaGreat.M
end
section
namespace Go.Proofs.YtkgngggppcmpfaaGreat.M
open Go.RowKit Go.Proofs.YtkgngggppcmpfaaGreatW.PrintWords Go.Proofs.YtkgngggppcmpfaaGreatW.PrintLast Go.Proofs.YtkgngggppcmpfaaGreatW.PrintMore Go.Proofs.YtkgngggppcmpfaaGreat.L
theorem Qj2 (l:List Int) (m:Int) (hl:l.length≤9223372036854775806):Qdc.f l m=some (l.all (inB · 0 m)):=by
 unfold Qdc.f
 rw [if_pos hl]
 congr 1
 rw [Bool.eq_iff_iff]
 simp [Qdc.p, inB]
theorem Qf8 (n:Int):Qdp.f n=some (inB n 1 60):=by simp [Qdp.f,Qe2]
end Go.Proofs.YtkgngggppcmpfaaGreat.M
end
section
namespace Go.Proofs.YtkgngggppcmpfaaGreat.M
open Go.RowKit Go.Proofs.YtkgngggppcmpfaaGreatW.PrintWords Go.Proofs.YtkgngggppcmpfaaGreatW.PrintLast Go.Proofs.YtkgngggppcmpfaaGreatW.PrintMore Go.Proofs.YtkgngggppcmpfaaGreat.L
end Go.Proofs.YtkgngggppcmpfaaGreat.M
namespace Go.Proofs.YtkgngggppcmpfaaGreat.Pure
open Go.RowKit Go.Proofs.YtkgngggppcmpfaaGreatW.PrintWords Go.Proofs.YtkgngggppcmpfaaGreatW.PrintLast Go.Proofs.YtkgngggppcmpfaaGreatW.PrintMore Go.Proofs.YtkgngggppcmpfaaGreat.L Go.Proofs.YtkgngggppcmpfaaGreat.M
end Go.Proofs.YtkgngggppcmpfaaGreat.Pure
end
section
namespace Go.Proofs.YtkgngggppcmpfaaGreat.M
open Go.RowKit Go.Proofs.YtkgngggppcmpfaaGreatW.PrintWords Go.Proofs.YtkgngggppcmpfaaGreatW.PrintLast Go.Proofs.YtkgngggppcmpfaaGreatW.PrintMore Go.Proofs.YtkgngggppcmpfaaGreat.L Go.Proofs.YtkgngggppcmpfaaGreat.X
set_option linter.unusedVariables false
theorem Qge (l:List Int) (hl:l.length≤9223372036854775806):Qde.f l=some (inB (l.length:Int) 1 60 && l.all (inB · 0 100000000)):=by
 unfold Qde.f
 rw [Qf8]
 cases h : inB (l.length : Int) 1 60
 ·
  rfl
 ·
  rw [Option.bind_some, if_pos rfl, Qj2 l _ hl]; rfl
theorem Qfd (l:List Int) (hl:l.length≤9223372036854775806):Ev (fun k=>Qdd.f k l) (inB (l.length:Int) 1 60 && l.all (inB · 0 100000000)):=by
 refine Qbw (Qe6 _ _ _) (Qei (fun e => ?_) (fun e => ?_))
 ·
  rw [e, Bool.true_and]; exact Ev.bind (Qhq l _ _ hl) (Ev.now _)
 ·
  rw [Bool.eq_false_iff.mpr e, Bool.false_and]; exact Ev.now _
def Qdv (j q n:Nat):List Int:=((List.range' j q).map fun i:Nat=>(i:Int)).filter fun i=>Int.tmod (n:Int) i==0
def divB (n:Nat):Bool:=Qbn.f 100 (n:Int)==some (Qdv 1 n n)
theorem Qkf:((List.range' 1 60).all divB)=true:=by decide+kernel
theorem div_at {n:Nat} (h1:1≤n) (h2:n≤60):Qbn.f 100 (n:Int)=some (Qdv 1 n n):=by
 have h := Qkf
 rw [List.all_eq_true] at h
 have h3 := h n (by rw [List.mem_range'_1]; omega)
 unfold divB at h3
 exact beq_iff_eq.mp h3
theorem rem_at {j n:Nat} (h1:1≤n):0≤Int.tmod (j:Int) (n:Int)∧Int.tmod (j:Int) (n:Int)<(n:Int):=by
 refine ⟨Int.tmod_nonneg _ (by omega), ?_⟩
 exact Int.tmod_lt_of_pos _ (by omega)
theorem Qg5 {j q n:Nat} {i:Int} (h:i ∈ Qdv j q n): ∃ m:Nat,i=(m:Int)∧j≤m∧m<j+q:=by
 unfold Qdv at h
 rw [List.mem_filter, List.mem_map] at h
 obtain ⟨⟨m, hm, rfl⟩, _⟩ := h
 rw [List.mem_range'_1] at hm
 exact ⟨m, rfl, hm.1, hm.2⟩
def rootB (m d:Nat):Bool:=match Qcl.f 100 (m:Int) (d:Int),Qbu.f 100 (m:Int) (d:Int) with
 | some a, some b => a == b
 | _, _ => false
theorem Qj8:((List.range' 1 60).all fun m=>(List.range 61).all fun d=>rootB m d)=true:=by decide+kernel
theorem root_at {m d:Nat} (h1:1≤m) (h2:m≤60) (hd:d≤60): ∃ s,Ev (fun k=>Qcl.f k (m:Int) (d:Int)) s∧Qbu.f 100 (m:Int) (d:Int)=some s:=by
 have h := Qj8
 rw [List.all_eq_true] at h
 have h3 := h m (by rw [List.mem_range'_1]; omega)
 rw [List.all_eq_true] at h3
 have h4 := h3 d (List.mem_range.mpr (by omega))
 unfold rootB at h4
 split at h4
 ·
  rename_i a b e1 e2
  rw [beq_iff_eq] at h4
  subst h4
  exact ⟨a, Ev.of (Qcl.mono _ _) e1, e2⟩
 ·
  cases h4
def obAtB (n i:Nat):Bool:=Qdv 1 ((Qdv 1 n n).getD i 0).toNat ((Qdv 1 n n).getD i 0).toNat==(((Qdv 1 n n).take i).filter fun h=>Int.tmod ((Qdv 1 n n).getD i 0) h==0)++ [(Qdv 1 n n).getD i 0] && !((Qdv 1 n n).take i).contains ((Qdv 1 n n).getD i 0)
def obB (n:Nat):Bool:=(List.range (Qdv 1 n n).length).all fun i=>obAtB n i
theorem ob_table:((List.range' 1 60).all obB)=true:=by decide+kernel
theorem ob_at {n:Nat} (h1:1≤n) (h2:n≤60) {pre gs:List Int} {g:Int} (h:pre++g::gs=Qdv 1 n n):Qdv 1 g.toNat g.toNat=(pre.filter fun h=>Int.tmod g h==0)++ [g] ∧g ∉ pre:=by
 have ht := ob_table
 rw [List.all_eq_true] at ht
 have h3 := ht n (by rw [List.mem_range'_1]; omega)
 unfold obB at h3
 rw [List.all_eq_true] at h3
 have hi : pre.length < (Qdv 1 n n).length := by rw [← h]; simp
 have h4 := h3 pre.length (List.mem_range.mpr hi)
 unfold obAtB at h4
 have e1 : (Qdv 1 n n).getD pre.length 0 = g := by rw [← h]; simp
 have e2 : (Qdv 1 n n).take pre.length = pre := by rw [← h]; simp
 rw [e1, e2, Bool.and_eq_true, beq_iff_eq, Bool.not_eq_true', ← Bool.not_eq_true, List.contains_iff_mem] at h4
 exact h4
def Qev (g:Int) (o:Int) (p:Int × Int):Int:=if Int.tmod g p.1=0 then o - p.2 else o
def Qes (x:List Int) (P:List (Int × Int)) (g:Int):Int:=P.foldl (Qev g) (rd x (Int.tmod g (x.length:Int)))
def Qfy (x:List Int):List (Int × Int)→List Int→List Int × Bool
 | P, [] => (P.map (·.2), true)
 | P, g :: gs => if Qes x P g < 0 then ([], false) else Qfy x (P ++ [(g, Qes x P g)]) gs
def InP (P:List (Int × Int)):Prop:= ∀ p ∈ P,0≤p.2∧p.2≤100000000
theorem Qig {P:List (Int × Int)} (h:InP P) (g:Int): ∀ o,(P.foldl (Qev g) o≤o)∧o - 100000000*P.length≤P.foldl (Qev g) o:=by
 induction P with
 | nil => intro o; simp
 | cons p P ih =>
  intro o
  have hp := h p List.mem_cons_self
  obtain ⟨h1, h2⟩ := ih (fun q hq => h q (List.mem_cons_of_mem _ hq)) (Qev g o p)
  rw [List.foldl_cons, List.length_cons]
  have e : Qev g o p = o - p.2 ∨ Qev g o p = o := by
   unfold Qev
   by_cases c : Int.tmod g p.1 = 0
   ·
    exact .inl (if_pos c)
   ·
    exact .inr (if_neg c)
  generalize P.foldl (Qev g) (Qev g o p) = z at h1 h2 ⊢
  rcases e with e | e <;> rw [e] at h1 h2 <;> constructor <;> omega
theorem Qjv {x:List Int} (hx:x.all (inB · 0 100000000)=true) {i:Int} (h0:0≤i) (h1:i<(x.length:Int)):0≤rd x i∧rd x i≤100000000:=by
 obtain ⟨j, rfl⟩ : ∃ j : Nat, i = (j : Int) := ⟨i.toNat, by omega⟩
 rw [Qe8 (by omega)]
 rw [List.all_eq_true] at hx
 exact Qdw.mp (hx _ (List.getElem_mem _))
theorem obAt_mem {L:List (Int × Int)} (hn:(L.map (·.1)).Nodup) {p:Int × Int} (hp:p ∈ L):Qm.at L p.1=p.2:=by
 induction L with
 | nil => cases hp
 | cons q L ih =>
  rw [List.map_cons, List.nodup_cons] at hn
  unfold Qm.at
  rcases List.mem_cons.mp hp with e | hm
  ·
   subst e; rw [if_pos rfl]
  ·
   rw [if_neg (fun e => hn.1 (by rw [← e]; exact List.mem_map_of_mem hm))]
   exact ih hn.2 hm
theorem obAt_not {L:List (Int × Int)} {k:Int} (h:k ∉ L.map (·.1)):Qm.at L k=0:=by
 induction L with
 | nil => rfl
 | cons q L ih =>
  rw [List.map_cons, List.mem_cons, not_or] at h
  unfold Qm.at
  rw [if_neg h.1]
  exact ih h.2
theorem obSub {many:List (Int × Int)} (hn:(many.map (·.1)).Nodup) (g:Int): ∀ (P:List (Int × Int)) (o:Int),(∀ p ∈ P,p ∈ many)→InP P→ -1000000000000≤o - 100000000*P.length→o≤100000000→
  Qm.sub many ((P.map (·.1)).filter fun h => Int.tmod g h == 0) o = P.foldl (Qev g) o
 | [], o, _, _, _, _ => rfl
 | p :: P, o, hm, hP, h1, h2 => by
  have hp := hP p List.mem_cons_self
  rw [List.length_cons] at h1
  rw [List.map_cons, List.filter_cons, List.foldl_cons]
  by_cases e : Int.tmod g p.1 = 0
  ·
   rw [if_pos (beq_iff_eq.mpr e)]
   have e1 : Qev g o p = o - p.2 := if_pos e
   have e2 : Qm.sub many (p.1 :: (P.map (·.1)).filter fun h => Int.tmod g h == 0) o = Qm.sub many ((P.map (·.1)).filter fun h => Int.tmod g h == 0) (wrap64 (o - Qm.at many p.1)) := rfl
   rw [e1, e2, obAt_mem hn (hm p List.mem_cons_self), Qd6 (by omega) (by omega)]
   exact obSub hn g P _ (fun q hq => hm q (List.mem_cons_of_mem _ hq)) (fun q hq => hP q (List.mem_cons_of_mem _ hq)) (by omega) (by omega)
  ·
   rw [if_neg (by rw [beq_iff_eq]; exact e)]
   have e1 : Qev g o p = o := if_neg e
   rw [e1]
   exact obSub hn g P _ (fun q hq => hm q (List.mem_cons_of_mem _ hq)) (fun q hq => hP q (List.mem_cons_of_mem _ hq)) (by omega) (by omega)
theorem Qhx {x:List Int} (h1:1≤x.length) (h2:x.length≤60) (hx:x.all (inB · 0 100000000)=true): ∀ (gs:List Int) (P:List (Int × Int)),P.map (·.1)++gs=Qdv 1 x.length x.length→(P.map (·.1)).Nodup→InP P→P.length+gs.length≤60→
  Ev (fun k => Qm.go k x gs P.reverse (P.map (·.2))) (Qfy x P gs)
 | [], P, h, hn, hP, hl => Ev.now _
 | g :: gs, P, h, hn, hP, hl => by
  obtain ⟨o1, o2⟩ := ob_at h1 h2 h
  have hg : g ∈ Qdv 1 x.length x.length := by rw [← h]; simp
  obtain ⟨j, rfl, j1, j2⟩ := Qg5 hg
  have hr := rem_at (j := j) h1
  have hb := Qjv hx hr.1 hr.2
  have hf := Qig hP (j : Int) (rd x (Int.tmod (j : Int) (x.length : Int)))
  rw [List.length_cons] at hl
  rw [Int.toNat_natCast] at o1
  have hn2 : (P.reverse.map (·.1)).Nodup := by rw [List.map_reverse]; exact List.pairwise_reverse.mpr (hn.imp fun h e => h e.symm)
  have hsub : Qm.sub P.reverse (Qdv 1 j j) (rd x (Int.tmod (j : Int) (x.length : Int))) = Qes x P (j : Int) := by
   rw [o1]
   unfold Qm.sub
   rw [List.foldl_append]
   have := obSub hn2 (j : Int) P (rd x (Int.tmod (j : Int) (x.length : Int))) (fun p hp => List.mem_reverse.mpr hp) hP (by omega) (by omega)
   unfold Qm.sub at this
   rw [this, List.foldl_cons, List.foldl_nil, obAt_not (by rw [List.map_reverse, List.mem_reverse]; exact o2), Int.sub_zero]
   unfold Qes
   exact Qd6 (by omega) (by omega)
  have hwf : ∀ y : Int, -9223372036854775808 ≤ y → y ≤ 9223372036854775807 → (Lit.int .i64 y).wf = true := fun y a b => by
   exact WalkArith.wf_i64 (by omega)
  have hown : -1000000000000 ≤ Qes x P (j : Int) ∧ Qes x P (j : Int) ≤ 100000000 := by unfold Qes; omega
  have hds : (Qdv 1 j j).length ≤ 60 := by
   unfold Qdv
   refine Nat.le_trans (List.length_filter_le _ _) ?_
   rw [List.length_map, List.length_range']
   omega
  have hdw : ((Qdv 1 j j).all fun d => (Lit.int .i64 d).wf) = true := by
   rw [List.all_eq_true]
   intro d hd
   obtain ⟨m, rfl, m1, m2⟩ := Qg5 hd
   exact hwf _ (by omega) (by omega)
  have hE : Ev (fun k => Qbn.f k (j : Int)) (Qdv 1 j j) := Ev.of (Qbn.mono _) (div_at j1 (by omega))
  simp only [Qm.go]
  refine Qbf ⟨hwf _ (by omega) (by omega), hr.1, hr.2⟩ (Ev.bind hE (Qbf ⟨by omega, hdw, by rw [hsub]; exact hwf _ (by omega) (by omega), by rw [List.length_reverse]; omega⟩ ?_))
  rw [hsub, Qfy]
  refine Qei (fun c => ?_) (fun c => ?_)
  ·
   rw [if_pos c]; exact Ev.now _
  ·
   rw [if_neg c]
   refine Qbf (by rw [List.length_map]; omega) ?_
   have e1 : ((j : Int), Qes x P (j : Int)) :: P.reverse = (P ++ [((j : Int), Qes x P (j : Int))]).reverse := by simp
   have e2 : P.map (·.2) ++ [Qes x P (j : Int)] = (P ++ [((j : Int), Qes x P (j : Int))]).map (·.2) := by simp
   rw [e1, e2]
   refine Qhx h1 h2 hx gs _ (by rw [← h]; simp) (by rw [List.map_append]; exact List.nodup_append.mpr ⟨hn, by simp, by intro a ha b hb; simp at hb; subst hb; intro e; subst e; exact o2 ha⟩) (fun p hp => ?_) (by rw [List.length_append, List.length_singleton]; omega)
   rcases List.mem_append.mp hp with hp | hp
   ·
    exact hP p hp
   ·
    rw [List.mem_singleton] at hp
    subst hp
    exact ⟨by show 0 ≤ Qes x P (j : Int); omega, hown.2⟩
theorem Qkg (n:Nat): ∀ (q j:Nat),Qdv j (q+1) n=if Int.tmod (n:Int) (j:Int)==0 then (j:Int)::Qdv (j+1) q n else Qdv (j+1) q n:=fun q j=>by
 unfold Qdv
 rw [List.range'_succ, List.map_cons, List.filter_cons]
theorem Qgs {x:List Int} (h2:x.length≤60) (g:Nat) (hg:g≤60) (P:List (Int × Int)) (hl:P.length≤60) (hP:InP P) (hnz: ∀ p ∈ P,p.1≠0) (n:Int) (R:List Int × Bool): ∀ (d j:Nat) (o:Int),j+d=P.length→ -1000000000000≤o - 100000000*d→o≤100000000→
  Ev (fun k => if (P.drop j).foldl (Qev (g : Int)) o < 0 then some (([] : List Int), false) else Qx.l0 k x n (P.map (·.1) ++ [(g : Int)]) (P.map (·.2) ++ [(P.drop j).foldl (Qev (g : Int)) o]) ((g + 1 : Nat) : Int)) R →
  Ev (fun k => Qx.l1 k x n (P.map (·.1)) (P.map (·.2)) (g : Int) o (P.map (·.1)) ((P.map (·.1)).length : Int) (j : Int)) R
 | 0, j, o, h, b1, b2, c => by
  refine Ev.step (fun _ => Qx.l1.eq_2 ..) (Qb6 (by rw [List.length_map]; omega) ?_)
  rw [List.drop_of_length_le (by omega), List.foldl_nil] at c
  refine Qei (fun e => ?_) (fun e => ?_)
  ·
   have : R = ([], false) := Qg1 c (Qbf e (Ev.now _))
   rw [this]; exact Ev.now _
  ·
   refine Qbf (by rw [List.length_map]; omega) (Qbf (by rw [List.length_map]; omega) ?_)
   rw [Qd7 (by omega)]
   obtain ⟨K, hK⟩ := c
   exact ⟨K, fun k hk => (if_neg e).symm.trans (hK k hk)⟩
 | d + 1, j, o, h, b1, b2, c => by
  have hj : j < P.length := by omega
  have hm := List.getElem_mem hj
  have hp := hP _ hm
  refine Ev.step (fun _ => Qx.l1.eq_2 ..) ?_
  rw [Qe8 (l := P.map (·.1)) (by rw [List.length_map]; exact hj), List.getElem_map, Qe8 (l := P.map (·.2)) (by rw [List.length_map]; exact hj), List.getElem_map, Qd7 (by omega)]
  rw [List.drop_eq_getElem_cons hj, List.foldl_cons] at c
  refine Qbf (by rw [List.length_map]; omega) (Qbf (by omega) (Qbf (by rw [List.length_map]; omega) (Qb6 (hnz _ hm) (Qei (fun e => ?_) (fun e => ?_)))))
  ·
   have e1 : Qev (g : Int) o P[j] = o - P[j].2 := if_pos e
   rw [e1] at c
   refine Qbf (by rw [List.length_map]; omega) ?_
   rw [Qd6 (by omega) (by omega)]
   exact Qgs h2 g hg P hl hP hnz n R d (j + 1) _ (by omega) (by omega) (by omega) c
  ·
   have e1 : Qev (g : Int) o P[j] = o := if_neg e
   rw [e1] at c
   exact Qgs h2 g hg P hl hP hnz n R d (j + 1) _ (by omega) (by omega) (by omega) c
theorem Qgr {x:List Int} (h1:1≤x.length) (h2:x.length≤60) (hx:x.all (inB · 0 100000000)=true): ∀ (d j:Nat) (P:List (Int × Int)),j+d=x.length+1→1≤j→P.map (·.1)++Qdv j d x.length=Qdv 1 x.length x.length→InP P→P.length+d≤60→
  Ev (fun k => Qx.l0 k x (x.length : Int) (P.map (·.1)) (P.map (·.2)) (j : Int)) (Qfy x P (Qdv j d x.length))
 | 0, j, P, h, hj, hP0, hP, hl => Ev.step (fun _ => Qx.l0.eq_2 ..) (Qb6 (by omega) (Ev.now _))
 | d + 1, j, P, h, hj, hP0, hP, hl => by
  have hr := rem_at (j := j) h1
  have ht : 0 ≤ Int.tmod (x.length : Int) (j : Int) := Int.tmod_nonneg _ (by omega)
  refine Ev.step (fun _ => Qx.l0.eq_2 ..) (Qbf (by omega) (Qb6 (by omega) ?_))
  rw [Qkg] at hP0 ⊢
  refine Qei (fun e => ?_) (fun e => ?_)
  ·
   have e1 : ¬ (Int.tmod (x.length : Int) (j : Int) == 0) = true := by rw [beq_iff_eq]; omega
   rw [if_neg e1] at hP0 ⊢
   rw [Qd7 (by omega)]
   exact Qgr h1 h2 hx d (j + 1) P (by omega) (by omega) hP0 hP (by omega)
  ·
   have e1 : (Int.tmod (x.length : Int) (j : Int) == 0) = true := by rw [beq_iff_eq]; omega
   rw [if_pos e1] at hP0 ⊢
   have hb := Qjv hx hr.1 hr.2
   have hf := Qig hP (j : Int) (rd x (Int.tmod (j : Int) (x.length : Int)))
   refine Qb6 (by omega) (Qbf hr.1 (Qbf hr.2 ?_))
   refine Qgs h2 j (by omega) P (by omega) hP (fun p hp => ?_) _ _ P.length 0 _ (by omega) (by omega) (by omega) ?_
   ·
    have : p.1 ∈ Qdv 1 x.length x.length := by rw [← hP0]; exact List.mem_append_left _ (List.mem_map_of_mem hp)
    obtain ⟨m, hm, m1, m2⟩ := Qg5 this
    omega
   ·
    rw [List.drop_zero, Qfy]
    show Ev (fun k => if Qes x P (j : Int) < 0 then _ else _) _
    refine Qei (fun c => ?_) (fun c => ?_)
    ·
     rw [if_pos c]; exact Ev.now _
    ·
     rw [if_neg c]
     have e2 : P.map (·.1) ++ [(j : Int)] = (P ++ [((j : Int), Qes x P (j : Int))]).map (·.1) := by simp
     have e3 : P.map (·.2) ++ [Qes x P (j : Int)] = (P ++ [((j : Int), Qes x P (j : Int))]).map (·.2) := by simp
     show Ev (fun k => Qx.l0 k x (x.length : Int) (P.map (·.1) ++ [(j : Int)]) (P.map (·.2) ++ [Qes x P (j : Int)]) ((j + 1 : Nat) : Int)) _
     rw [e2, e3]
     refine Qgr h1 h2 hx d (j + 1) _ (by omega) (by omega) (by rw [← hP0]; simp) (fun p hp => ?_) (by rw [List.length_append, List.length_singleton]; omega)
     rcases List.mem_append.mp hp with hp | hp
     ·
      exact hP p hp
     ·
      rw [List.mem_singleton] at hp
      subst hp
      refine ⟨by show 0 ≤ Qes x P (j : Int); omega, ?_⟩
      show Qes x P (j : Int) ≤ 100000000
      unfold Qes; omega
theorem Qih (x:List Int): ∀ (gs:List Int) (P:List (Int × Int)),(Qfy x P gs).1.length≤P.length+gs.length
 | [], P => by rw [Qfy]; simp
 | g :: gs, P => by
  rw [Qfy]
  split
  ·
   exact Nat.zero_le _
  ·
   have := Qih x gs (P ++ [(g, Qes x P g)])
   rw [List.length_append, List.length_singleton] at this
   rw [List.length_cons]
   omega
theorem Qfw (x:List Int) (hx:x.length≤1048576): ∃ r:List Int × Bool,r.1.length≤1000∧Ev (fun k=>Qx.f k x) r∧Ev (fun k=>Qm.f k x) r:=by
 by_cases h : (inB (x.length : Int) 1 60 && x.all (inB · 0 100000000)) = true
 ·
  have hb := (Bool.and_eq_true _ _).mp h
  have b := Qdw.mp hb.1
  have hds : (Qdv 1 x.length x.length).length ≤ 60 := by
   unfold Qdv
   refine Nat.le_trans (List.length_filter_le _ _) ?_
   rw [List.length_map, List.length_range']
   omega
  refine ⟨Qfy x [] (Qdv 1 x.length x.length), ?_, ?_, ?_⟩
  ·
   have := Qih x (Qdv 1 x.length x.length) []
   rw [List.length_nil] at this
   omega
  ·
   refine Ev.bind (Qfd x (by omega)) (Qbf h ?_)
   exact Qgr (by omega) (by omega) hb.2 x.length 1 [] (by omega) (by omega) rfl (fun p hp => by cases hp) (by simp; omega)
  ·
   refine Qbw (Qge x (by omega)) (Qbf h (Qbf (by omega) (Ev.bind (Ev.of (Qbn.mono _) (div_at (by omega) (by omega))) (Qbf (by omega) ?_))))
   exact Qhx (by omega) (by omega) hb.2 _ [] rfl List.Pairwise.nil (fun p hp => by cases hp) (by simpa using hds)
 ·
  exact ⟨([], false), by simp, Ev.bind (Qfd x (by omega)) (Qb6 h (Ev.now _)), Qbw (Qge x (by omega)) (Qb6 h (Ev.now _))⟩
theorem Qg9 (x y:List Int) (r:Nat) (v:Int) (hr:r≤100) (hy: ∀ n,n ∈ y→n≠0) (hyl:y.length≤1000) (R:Bool × Bool) (c:Ev (fun k=>Q9.l0 k y x (x.length:Int) ((r+1:Nat):Int)) R):
  ∀ (d q n : Nat), q + d = y.length → n + d ≤ 1000 → Ev (fun k => Q9.l1 k y (r : Int) v (n : Int) x (x.length : Int) (r : Int) y (y.length : Int) (q : Int)) (if sumFrom (Qbh.g (r : Int)) (y.drop q) (n : Int) = v then R else (false, true))
 | 0, q, n, h, hn => by
  refine Ev.step (fun _ => Q9.l1.eq_2 ..) (Qb6 (by omega) ?_)
  rw [List.drop_of_length_le (by omega)]
  show Ev _ (if (n : Int) = v then R else (false, true))
  refine Qei (fun e => ?_) (fun e => ?_)
  ·
   rw [if_pos e, Qd7 (by omega)]; exact c
  ·
   rw [if_neg e]; exact Ev.now _
 | d + 1, q, n, h, hn => by
  have hq : q < y.length := by omega
  have hz := hy _ (List.getElem_mem hq)
  refine Ev.step (fun _ => Q9.l1.eq_2 ..) (Qbf (by omega) (Qbf (by omega) (Qbf (by omega) ?_)))
  rw [Qe8 hq, Qd7 (i := q) (by omega), List.drop_eq_getElem_cons hq]
  have e1 : sumFrom (Qbh.g (r : Int)) (y[q] :: y.drop (q + 1)) (n : Int) = sumFrom (Qbh.g (r : Int)) (y.drop (q + 1)) (wrap64 ((n : Int) + Qbh.g (r : Int) y[q])) := rfl
  rw [e1]
  refine Qb6 hz (Qei (fun e => ?_) (fun e => ?_))
  ·
   have e2 : Qbh.g (r : Int) y[q] = 1 := if_pos e
   rw [e2, Qd7 (by omega)]
   exact Qg9 x y r v hr hy hyl R c d (q + 1) (n + 1) (by omega) (by omega)
  ·
   have e2 : Qbh.g (r : Int) y[q] = 0 := if_neg e
   rw [e2, Int.add_zero, Qd6 (x := (n : Int)) (by omega) (by omega)]
   exact Qg9 x y r v hr hy hyl R c d (q + 1) n (by omega) (by omega)
theorem Qik (x y:List Int) (hx:x.length≤60) (hy: ∀ n,n ∈ y→n≠0) (hyl:y.length≤1000): ∀ (d r:Nat),r+d=x.length→
  Ev (fun k => Q9.l0 k y x (x.length : Int) (r : Int)) ((List.range' r d).all (fun i => rd x (i : Int) == sumF (Qbh.g (i : Int)) y), true)
 | 0, r, h => Ev.step (fun _ => Q9.l0.eq_2 ..) (Qb6 (by omega) (Ev.now _))
 | d + 1, r, h => by
  refine Ev.step (fun _ => Q9.l0.eq_2 ..) (Qbf (by omega) (Qbf (by omega) (Qbf (by omega) ?_)))
  have := Qg9 x y r (rd x (r : Int)) (by omega) hy hyl _ (Qik x y hx hy hyl d (r + 1) (by omega)) y.length 0 0 (by omega) (by omega)
  rw [List.drop_zero] at this
  rw [List.range'_succ, List.all_cons]
  have e : sumFrom (Qbh.g (r : Int)) y ((0 : Nat) : Int) = sumF (Qbh.g (r : Int)) y := rfl
  rw [e] at this
  by_cases c : sumF (Qbh.g (r : Int)) y = rd x (r : Int)
  ·
   rw [if_pos c] at this
   rw [c, beq_self_eq_true, Bool.true_and]; exact this
  ·
   rw [if_neg c] at this
   rw [show (rd x (r : Int) == sumF (Qbh.g (r : Int)) y) = false from beq_eq_false_iff_ne.mpr (fun e => c e.symm), Bool.false_and]; exact this
theorem Qj1 (y:List Int):y.any Qbh.p= !(y.all (inB · 1 60)):=by
 rw [Bool.eq_iff_iff, Bool.not_eq_true', List.any_eq_true, List.all_eq_false]
 refine exists_congr fun e => and_congr_right fun _ => ?_
 unfold Qbh.p
 rw [Bool.not_eq_true', ← Bool.not_eq_true]
 rfl
theorem Qgg (x y:List Int) (hx:x.length≤1048576) (hy:y.length≤1048576): ∃ r:Bool × Bool,Ev (fun k=>Q9.f k x y) r∧Qbh.f x y=some r:=by
 unfold Qbh.f
 rw [Qge x (by omega), Option.bind_some]
 by_cases h : (inB (x.length : Int) 1 60 && x.all (inB · 0 100000000)) = true
 ·
  rw [if_pos h]
  by_cases hc : (y.length : Int) > 1000
  ·
   refine ⟨(false, false), Ev.bind (Qfd x (by omega)) (Qbf h (Qbf hc ?_)), if_pos hc⟩
   exact Ev.step (fun _ => Q9.j0.eq_2 ..) (Qbf rfl (Ev.now _))
  ·
   rw [if_neg hc, Qj1]
   by_cases ha : y.all (inB · 1 60) = true
   ·
    rw [ha, if_neg (by simp), if_pos (by omega)]
    refine ⟨(Qbh.ok x y, true), Ev.bind (Qfd x (by omega)) (Qbf h (Qb6 hc (Ev.bind (Qhq y _ _ (by omega)) ?_))), rfl⟩
    rw [ha]
    refine Ev.step (fun _ => Q9.j0.eq_2 ..) (Qb6 (by simp) ?_)
    have b := (Bool.and_eq_true _ _).mp h
    have b1 := Qdw.mp b.1
    rw [List.all_eq_true] at ha
    have := Qik x y (by omega) (fun n hn => by have := Qdw.mp (ha n hn); omega) (by omega) x.length 0 (by omega)
    rw [← List.range_eq_range'] at this
    exact this
   ·
    rw [Bool.eq_false_iff.mpr ha, if_pos (show (!false) = true from rfl)]
    refine ⟨(false, false), Ev.bind (Qfd x (by omega)) (Qbf h (Qb6 hc (Ev.bind (Qhq y _ _ (by omega)) ?_))), rfl⟩
    rw [Bool.eq_false_iff.mpr ha]
    exact Ev.step (fun _ => Q9.j0.eq_2 ..) (Qbf rfl (Ev.now _))
 ·
  rw [if_neg h]
  refine ⟨(false, false), Ev.bind (Qfd x (by omega)) (Qb6 h ?_), rfl⟩
  exact Ev.step (fun _ => Q9.j0.eq_2 ..) (Qbf rfl (Ev.now _))
end Go.Proofs.YtkgngggppcmpfaaGreat.M
end
section
namespace Go.Proofs.YtkgngggppcmpfaaGreat.M
open Go.RowKit Go.Proofs.YtkgngggppcmpfaaGreatW.PrintWords Go.Proofs.YtkgngggppcmpfaaGreatW.PrintLast Go.Proofs.YtkgngggppcmpfaaGreatW.PrintMore
theorem Qje {x:Nat} (h:x<2 ^ 63):IntKind.i64.wrap (x:Int)=(x:Int):=by
 rw [IntKind.wrap_i64]
 have : (x : Int) < 9223372036854775808 := by
  have h2 : (2 : Nat) ^ 63 = 9223372036854775808 := by decide
  omega
 omega
theorem Qii {a:Nat} (h:a<2 ^ 63):(BitVec.ofInt IntKind.i64.bits (a:Int)).toNat=a:=by
 have e : IntKind.i64.bits = 64 := rfl
 rw [e, BitVec.ofInt_natCast, BitVec.toNat_ofNat]
 exact Nat.mod_eq_of_lt (Nat.lt_of_lt_of_le h (by decide))
theorem bits_or {a b:Nat} (ha:a<2 ^ 63) (hb:b<2 ^ 63):Go.bits .or .i64 (a:Int) (b:Int)=((a|||b:Nat):Int):=by
 simp only [Go.bits, BitVec.toNat_or, Qii ha, Qii hb]
 exact Qje (Nat.or_lt_two_pow ha hb)
theorem Qjx {i:Nat} (h:i<63):shl .i64 1 (i:Int)=((2 ^ i:Nat):Int):=by
 unfold shl
 have e : min (i : Int).toNat IntKind.i64.bits = i := by
  have : IntKind.i64.bits = 64 := rfl
  rw [this, Int.toNat_natCast]; omega
 rw [e, Int.one_mul]
 have : ((2 : Int) ^ i) = ((2 ^ i : Nat) : Int) := by simp
 rw [this]
 exact Qje (Nat.pow_lt_pow_right (by decide) h)
theorem shr_nat {a i:Nat} (h:i≤64):shr .i64 (a:Int) (i:Int)=((a / 2 ^ i:Nat):Int):=by
 unfold shr
 have e : min (i : Int).toNat IntKind.i64.bits = i := by
  have : IntKind.i64.bits = 64 := rfl
  rw [this, Int.toNat_natCast]; omega
 rw [e]; simp
theorem bit_mod {a i:Nat} (h:i≤64):(Int.tmod (shr .i64 (a:Int) (i:Int)) 2==1)=a.testBit i:=by
 rw [shr_nat h]
 have : Int.tmod ((a / 2 ^ i : Nat) : Int) 2 = ((a / 2 ^ i % 2 : Nat) : Int) := by
  rw [show (2 : Int) = ((2 : Nat) : Int) from rfl, Int.ofNat_tmod]
 rw [this, Nat.testBit_eq_decide_div_mod_eq, Bool.eq_iff_iff, beq_iff_eq, decide_eq_true_eq]
 omega
end Go.Proofs.YtkgngggppcmpfaaGreat.M
end
section
namespace Go.Proofs.YtkgngggppcmpfaaGreat.M
set_option linter.unusedVariables false
open Go.RowKit Go.Proofs.YtkgngggppcmpfaaGreatW.PrintWords Go.Proofs.YtkgngggppcmpfaaGreatW.PrintLast Go.Proofs.YtkgngggppcmpfaaGreatW.PrintMore
def toI (p:List Nat):List Int:=p.map fun (x:Nat)=>(x:Int)
@[simp] theorem toI_len (p : List Nat) : (toI p).length = p.length := by simp [toI]
@[simp] theorem toI_nil : toI [] = [] := rfl
def less (p:List Nat) (i:Nat):Nat:=p.getD i 0
structure Good (p : List Nat) : Prop where
 pos : 1 ≤ p.length
 le : p.length ≤ 10
 lt : ∀ i, i < p.length → less p i < 2 ^ i
 tr : ∀ i, i < p.length → ∀ j, (less p i).testBit j = true → ∀ m, (less p j).testBit m = true → (less p i).testBit m = true
end Go.Proofs.YtkgngggppcmpfaaGreat.M
end
section
namespace Go.Proofs.YtkgngggppcmpfaaGreat.M
open Go.RowKit Go.Proofs.YtkgngggppcmpfaaGreatW.PrintWords Go.Proofs.YtkgngggppcmpfaaGreatW.PrintLast Go.Proofs.YtkgngggppcmpfaaGreatW.PrintMore Go.Proofs.YtkgngggppcmpfaaGreat.L
set_option linter.unusedVariables false
theorem poIn_eq {s e:Nat} (he:e≤64):Qc0.f (s:Int) (e:Int)=some (s.testBit e):=by
 unfold Qc0.f; rw [if_pos (by omega), bit_mod he]
theorem Qg7 {i:Nat} (h:i≤10):2 ^ i≤1024:=by
 have := Nat.pow_le_pow_right (n := 2) (by decide) h
 simpa using this
theorem Qju (l:List Int) (i:Nat):rd l (i:Int)=l.getD i 0:=by simp [rd]
def cT (p:List Int) (s i:Nat):Bool:= !(s.testBit i) && decide (Go.bits .andNot .i64 (rd p (i:Int)) (s:Int)=0)
def cN (p:List Int) (F:Nat):Nat→Nat→Int
 | 0, _ => 0
 | d + 1, s => if s = F then 1 else (List.range p.length).foldl (fun a i => if cT p s i = true then wrap64 (a + cN p F d (s ||| 2 ^ i)) else a) 0
def cL (p:List Int) (F:Nat):Nat→Nat→List Int
 | 0, _ => []
 | m + 1, s => cN p F (F + 1) s :: cL p F m (s + 1)
theorem Qiu (p:List Int) (F:Nat): ∀ m s,(cL p F m s).length=m
 | 0, _ => rfl
 | m + 1, s => by rw [cL, List.length_cons, Qiu p F m]
theorem cL_get (p:List Int) (F:Nat): ∀ m s i,i<m→(cL p F m s).getD i 0=cN p F (F+1) (s+i)
 | 0, _, _, h => by omega
 | m + 1, s, 0, h => by rw [cL]; rfl
 | m + 1, s, i + 1, h => by
  rw [cL, List.getD_cons_succ, cL_get p F m (s + 1) i (by omega), show s + 1 + i = s + (i + 1) by omega]
theorem Qgn {α β:Type} {f g:α→β→α} : ∀ (l:List β) (a:α),(∀ a,∀ b ∈ l,f a b=g a b)→l.foldl f a=l.foldl g a
 | [], a, h => rfl
 | b :: l, a, h => by
  rw [List.foldl_cons, List.foldl_cons, h a b List.mem_cons_self]
  exact Qgn l _ (fun a b hb => h a b (List.mem_cons_of_mem _ hb))
theorem or_gt {s i n:Nat} (hi:i<n) (hs:s<2 ^ n) (hb:s.testBit i=false):s<s|||2 ^ i∧s|||2 ^ i<2 ^ n:=by
 constructor
 ·
  have h1 : s ≤ s ||| 2 ^ i := Nat.left_le_or
  rcases Nat.lt_or_ge s (s ||| 2 ^ i) with h | h
  ·
   exact h
  ·
   have e : s = s ||| 2 ^ i := by omega
   have : (s ||| 2 ^ i).testBit i = true := by rw [Nat.testBit_or, Nat.testBit_two_pow_self, Bool.or_true]
   rw [← e, hb] at this
   cases this
 ·
  exact Nat.or_lt_two_pow hs (Nat.pow_lt_pow_right (by decide) hi)
theorem Qib (p:List Int) {F:Nat} (hF:F=2 ^ p.length - 1): ∀ (d d' s:Nat),s≤F→F<d+s→F<d'+s→cN p F d s=cN p F d' s
 | 0, d', s, h1, h2, h3 => by omega
 | d + 1, 0, s, h1, h2, h3 => by omega
 | d + 1, d' + 1, s, h1, h2, h3 => by
  have hp := Nat.two_pow_pos p.length
  rw [cN, cN]
  by_cases e : s = F
  ·
   rw [if_pos e, if_pos e]
  ·
   rw [if_neg e, if_neg e]
   refine Qgn _ _ (fun a i hi => ?_)
   rw [List.mem_range] at hi
   by_cases hc : cT p s i = true
   ·
    rw [if_pos hc, if_pos hc]
    have hb : s.testBit i = false := by unfold cT at hc; rw [Bool.and_eq_true, Bool.not_eq_true'] at hc; exact hc.1
    have := or_gt hi (by omega) hb
    rw [Qib p hF d d' _ (by omega) (by omega) (by omega)]
   ·
    rw [if_neg hc, if_neg hc]
def cF (p:List Int) (F s i:Nat):Int:=(List.range i).foldl (fun a i=>if cT p s i=true then wrap64 (a+cN p F (F+1) (s|||2 ^ i)) else a) 0
theorem cF_succ (p:List Int) (F s i:Nat):cF p F s (i+1)=if cT p s i=true then wrap64 (cF p F s i+cN p F (F+1) (s|||2 ^ i)) else cF p F s i:=by
 unfold cF
 rw [List.range_succ, List.foldl_append]
 rfl
theorem cF_all (p:List Int) {F:Nat} (hF:F=2 ^ p.length - 1) {s:Nat} (hs:s<F):cF p F s p.length=cN p F (F+1) s:=by
 have hp := Nat.two_pow_pos p.length
 rw [cN, if_neg (by omega)]
 unfold cF
 refine Qgn _ _ (fun a i hi => ?_)
 rw [List.mem_range] at hi
 by_cases hc : cT p s i = true
 ·
  rw [if_pos hc, if_pos hc]
  have hb : s.testBit i = false := by unfold cT at hc; rw [Bool.and_eq_true, Bool.not_eq_true'] at hc; exact hc.1
  have := or_gt hi (by omega) hb
  rw [Qib p hF (F + 1) F _ (by omega) (by omega) (by omega)]
 ·
  rw [if_neg hc, if_neg hc]
structure CI (p : List Int) (F : Nat) (X : List Int) (s : Nat) : Prop where
 len : X.length = F + 1
 up : ∀ t, s < t → t ≤ F → X.getD t 0 = cN p F (F + 1) t
 low : ∀ t, t < s → X.getD t 0 = 0
theorem Qgu {X:List Int} {s:Nat} {v:Int} (h:s<X.length):(X.set s v).getD s 0=v:=by
 simp [List.getD_eq_getElem?_getD, h]
theorem Qfn {X:List Int} {s t:Nat} {v:Int} (h:s≠t):(X.set s v).getD t 0=X.getD t 0:=by
 simp [List.getD_eq_getElem?_getD, h]
theorem CI.set {p:List Int} {F:Nat} {X:List Int} {s:Nat} (h:CI p F X s) (v:Int):CI p F (X.set s v) s:=
 ⟨by rw [List.length_set]; exact h.len, fun t h1 h2 => by rw [Qfn (by omega)]; exact h.up t h1 h2, fun t h1 => by rw [Qfn (by omega)]; exact h.low t h1⟩
theorem Qg4 (p:List Int) (hn:p.length≤10) {F:Nat} (hF:F=2 ^ p.length - 1) {s:Nat} (hs:s<F) {R:List Int} : ∀ (d i:Nat) (X:List Int),i+d=p.length→CI p F X s→X.getD s 0=cF p F s i→
  (∀ X', CI p F X' s → X'.getD s 0 = cN p F (F + 1) s → Ev (fun k => Qw.l0 k X' (wrap64 ((s : Int) - 1)) p) R) → Ev (fun k => Qw.l1 k X (s : Int) p (p.length : Int) (i : Int) p) R
 | 0, i, X, e, hX, hv, hK => by
  refine Ev.step (fun _ => Qw.l1.eq_2 ..) (Qb6 (by omega) ?_)
  exact hK X hX (by rw [hv, show i = p.length by omega, cF_all p hF hs])
 | d + 1, i, X, e, hX, hv, hK => by
  have hp := Nat.two_pow_pos p.length
  have hF10 : F < 1024 := by have := Qg7 hn; omega
  refine Ev.step (fun _ => Qw.l1.eq_2 ..) (Qbf (by omega) (Qbf (by omega) (Qbf (by omega) (Qbw (poIn_eq (by omega)) ?_))))
  rw [Qd7 (by omega)]
  have hstep := cF_succ p F s i
  by_cases hb : s.testBit i = true
  ·
   refine Qbf hb ?_
   have hc : ¬ (cT p s i = true) := by unfold cT; rw [hb]; simp
   rw [if_neg hc] at hstep
   exact Qg4 p hn hF hs d (i + 1) X (by omega) hX (by rw [hstep]; exact hv) hK
  ·
   refine Qb6 hb ?_
   have hb : s.testBit i = false := by simpa using hb
   have hor := or_gt (show i < p.length by omega) (show s < 2 ^ p.length by omega) hb
   have hi63 : (2 : Nat) ^ i < 2 ^ 63 := Nat.pow_lt_pow_right (by decide) (by omega)
   by_cases hz : Go.bits .andNot .i64 (rd p (i : Int)) (s : Int) = 0
   ·
    have hc : cT p s i = true := by unfold cT; rw [hb, decide_eq_true hz]; rfl
    rw [if_pos hc] at hstep
    have eo : Go.bits .or .i64 (s : Int) (shl .i64 1 (i : Int)) = ((s ||| 2 ^ i : Nat) : Int) := by rw [Qjx (by omega), bits_or (by omega) hi63]
    have hl := hX.len
    refine Qbf hz (Qbf (by omega) (Qbf (by omega) ?_))
    rw [eo]
    refine Qbf (by omega) (Qbf (by omega) ?_)
    rw [Qju, Qju, Int.toNat_natCast, hv, hX.up _ hor.1 (by omega)]
    exact Qg4 p hn hF hs d (i + 1) _ (by omega) (hX.set _) (by rw [Qgu (by omega), hstep]) hK
   ·
    have hc : ¬ (cT p s i = true) := by unfold cT; rw [decide_eq_false hz]; simp
    rw [if_neg hc] at hstep
    refine Qb6 hz ?_
    exact Qg4 p hn hF hs d (i + 1) X (by omega) hX (by rw [hstep]; exact hv) hK
theorem liC_end (p:List Int) {F:Nat} {X:List Int} (hl:X.length=F+1) (h: ∀ t,t≤F→X.getD t 0=cN p F (F+1) t):X=cL p F (F+1) 0:=by
 refine List.ext_getElem (by rw [hl, Qiu]) (fun i h1 h2 => ?_)
 have a := h i (by omega)
 have b := cL_get p F (F + 1) 0 i (by omega)
 rw [Nat.zero_add] at b
 rw [← b] at a
 simpa [List.getD_eq_getElem?_getD, h1, h2] using a
theorem liC_l0 (p:List Int) (hn:p.length≤10) {F:Nat} (hF:F=2 ^ p.length - 1): ∀ (s:Nat) (X:List Int),s<F→CI p F X s→X.getD s 0=0→Ev (fun k=>Qw.l0 k X (s:Int) p) (cL p F (F+1) 0)
 | 0, X, hs, hX, h0 => by
  refine Ev.step (fun _ => Qw.l0.eq_2 ..) (Qbf (by omega) ?_)
  refine Qg4 p hn hF hs p.length 0 X (by omega) hX (by rw [h0]; rfl) (fun X' hX' hv => ?_)
  refine Ev.step (fun _ => Qw.l0.eq_2 ..) (Qb6 (by show ¬ (wrap64 (-1) ≥ 0); rw [Qd6 (by omega) (by omega)]; omega) ?_)
  rw [liC_end p hX'.len (fun t ht => by
   rcases Nat.eq_zero_or_pos t with e | e
   ·
    rw [e]; exact hv
   ·
    exact hX'.up t e ht)]
  exact Ev.now _
 | s + 1, X, hs, hX, h0 => by
  have hF10 : F < 1024 := by have := Qg7 hn; omega
  refine Ev.step (fun _ => Qw.l0.eq_2 ..) (Qbf (by omega) ?_)
  refine Qg4 p hn hF hs p.length 0 X (by omega) hX (by rw [h0]; rfl) (fun X' hX' hv => ?_)
  rw [show wrap64 (((s + 1 : Nat) : Int) - 1) = (s : Int) by rw [show ((s + 1 : Nat) : Int) - 1 = (s : Int) by omega]; exact Qd6 (by omega) (by omega)]
  refine liC_l0 p hn hF s X' (by omega) ⟨hX'.len, fun t h1 h2 => ?_, fun t h1 => hX'.low t (by omega)⟩ (hX'.low s (by omega))
  rcases Nat.eq_or_lt_of_le (show s + 1 ≤ t by omega) with e | e
  ·
   rw [← e]; exact hv
  ·
   exact hX'.up t e h2
theorem Qhl (p:List Int) (h1:1≤p.length) (hn:p.length≤10) {F:Nat} (hF:F=2 ^ p.length - 1):Ev (fun k=>Qw.f k p) (cL p F (F+1) 0):=by
 have hp := Qg7 hn
 have h2 : 2 ^ 1 ≤ 2 ^ p.length := Nat.pow_le_pow_right (by decide) h1
 have es := Qjx (i := p.length) (by omega)
 refine Qbf (by rw [es]; omega) (Qbf (by rw [es]; omega) (Qbw rfl ?_))
 rw [es]
 rw [show wrap64 (((2 ^ p.length : Nat) : Int) - 1) = ((F : Nat) : Int) by rw [Qd6 (by omega) (by omega)]; omega, show wrap64 (((2 ^ p.length : Nat) : Int) - 2) = ((F - 1 : Nat) : Int) by rw [Qd6 (by omega) (by omega)]; omega, Int.toNat_natCast, Int.toNat_natCast]
 refine Qbf (by omega) (Qbf (by rw [List.length_replicate]; omega) ?_)
 have hl : (List.replicate (2 ^ p.length) (0 : Int)).length = F + 1 := by rw [List.length_replicate]; omega
 refine liC_l0 p hn hF (F - 1) _ (by omega) ⟨by rw [List.length_set]; exact hl, fun t h3 h4 => ?_, fun t h3 => ?_⟩ ?_
 ·
  have : t = F := by omega
  subst this
  rw [Qgu (by omega), cN, if_pos rfl]
 ·
  rw [Qfn (by omega)]; simp [List.getD_eq_getElem?_getD, List.getElem?_replicate]; split <;> rfl
 ·
  rw [Qfn (by omega)]; simp [List.getD_eq_getElem?_getD, List.getElem?_replicate]; split <;> rfl
def liA (p:List Int):Option (List (List Int) × Bool):=if 1≤p.length∧p.length≤10 then (if rd (cL p (2 ^ p.length - 1) (2 ^ p.length - 1+1) 0) 0>500 then some ([],false) else Qcv.l0 1200 (cL p (2 ^ p.length - 1) (2 ^ p.length - 1+1) 0) ([] :List (List Int)) 0 p) else none
theorem Qi0 {p:List Int} {r:List (List Int) × Bool} (h:liA p=some r):Ev (fun k=>Qcv.f k p) r:=by
 unfold liA at h
 split at h
 ·
  rename_i hc
  refine Ev.bind (Qhl p hc.1 hc.2 rfl) (Qbf (by rw [Qiu]; omega) ?_)
  split at h
  ·
   rename_i h5; cases h; exact Qbf h5 (Ev.now _)
  ·
   rename_i h5; refine Qb6 h5 (Ev.of (fun k => Qcv.mono_l k _ _ _ _) h)
 ·
  cases h
end Go.Proofs.YtkgngggppcmpfaaGreat.M
end
