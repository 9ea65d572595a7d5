/- Laws about the given program: the law FnArrayOrbits answers true for every input that its row lets in; no condition is added to the given statement. Contracts of the Go functions that it reaches, and the plain proof over lists. -/
import Derived.Test.YtkgngggppcmpfaaWFnArrayOrbits0
import Derived.Test.YtkgngggppcmpfaaKFnArrayOrbits0
import Derived.Test.YtkgngggppcmpfaaKFnArrayOrbits1
import Derived.Test.YtkgngggppcmpfaaKFnArrayOrbits2
import Derived.Test.YtkgngggppcmpfaaKFnArrayOrbits3
import Derived.Test.YtkgngggppcmpfaaKFnArrayOrbits4
import Derived.Test.YtkgngggppcmpfaaKFnArrayOrbits5
section
namespace Go.Proofs.Ytkgngggppcmpfaa.L
open Go.RowKit Go.Proofs.YtkgngggppcmpfaaW.PrintWords Go.Proofs.YtkgngggppcmpfaaW.PrintLast Go.Proofs.YtkgngggppcmpfaaW.PrintMore
attribute [local go_sem] Qbj Qbi Qbu Qbt Qbd Qbc Qbk Qbl
set_option linter.unusedVariables false
set_option linter.unusedSimpArgs false
def Qce.l0 : Nat → Int → Int → List Int → Int → Int → Option (Bool)
 |0,_,_,_,_,_=>none
 |k+1,x1,x2,x9,x10,x11=>if x11<x10 then (if 0≤x11 then (if x11<(x9.length:Int) then ((Qcq.f (rd x9 x11) x1 x2).bind fun t427=>(if t427=true then (Qce.l0 k x1 x2 x9 x10 (wrap64 (x11+1))) else (some false))) else (none)) else (none)) else (some true)
def Qce.f (k : Nat) (l0 : List Int) (a1 : Int) (a2 : Int) : Option (Bool) := Qce.l0 k a1 a2 l0 (l0.length : Int) 0
theorem Qce.mono_l : ∀ k, (∀ y0 y1 y2 y3 y4, LeO (Qce.l0 k y0 y1 y2 y3 y4) (Qce.l0 (k + 1) y0 y1 y2 y3 y4))
 |0=>fun _ _ _ _ _ r h=>by simp [Qce.l0] at h
 |k+1=>by
  have ih0:=Qce.mono_l k
  ·
   intro y0 y1 y2 y3 y4;unfold Qce.l0
   repeat' first
   |(with_reducible exact ih0 _ _ _ _ _)
   |(with_reducible exact LeO.refl _)
   |(with_reducible exact LeO.none _)
   |(with_reducible refine LeO.ite ?_ ?_)
   |(with_reducible refine LeO.bind ?_ (fun _=> ?_))
   |exact ih0 _ _ _ _ _
   |exact LeO.none _
   |refine LeO.ite ?_ ?_
   |refine LeO.bind ?_ (fun _=> ?_)
theorem Qce.mono : ∀ a0 a1 a2 k, LeO (Qce.f k a0 a1 a2) (Qce.f (k + 1) a0 a1 a2) := by
 intro a0 a1 a2 k;have ih0:=Qce.mono_l k;unfold Qce.f
 repeat' first
  |(with_reducible exact ih0 _ _ _ _ _)
  |(with_reducible exact LeO.refl _)
  |(with_reducible exact LeO.none _)
  |(with_reducible refine LeO.ite ?_ ?_)
  |(with_reducible refine LeO.bind ?_ (fun _=> ?_))
  |exact ih0 _ _ _ _ _
  |exact LeO.none _
  |refine LeO.ite ?_ ?_
  |refine LeO.bind ?_ (fun _=> ?_)
set_option maxHeartbeats 8000000 in
set_option maxRecDepth 100000 in
theorem Qce.calls (k : Nat) (A0 : Option Addr) (c0 : Nat) (l0 : List Int) (a1 : Int) (a2 : Int) (r : Bool) (w : World) (hr0 : Kd.C (Kd.int .i64) w A0 l0.length l0) (hc0 : l0.length ≤ c0) (h : Qce.f k l0 a1 a2 = some r) :
 Calls Try.prog 121 #[.slice A0 l0.length c0, .int .i64 a1, .int .i64 a2] w fun e w'=>e= .returned (.bool r)∧Drawn0 w w':=by
 have HR0:=Aside0.mk hr0;have HC0:=Aside0.mk hc0;clear hr0 hc0;have H:(Qce.l0 k a1 a2 l0 (l0.length:Int) 0)=some r:=h;clear h;have H':=Aside0.mk H;clear H;go_enter Try.func121,Try.ntmps121;go_wp2
 go_loopg [11] k (fun kq v11 w'=> ∃ (x11_1:Int),v11= .int .i64 x11_1∧Aside0 (Qce.l0 kq a1 a2 l0 (l0.length:Int) x11_1=some r)∧Aside0 (kq≤k)∧Drawn0 w w')
 case atStart=>exact ⟨(0),(by first|rfl|(simp;done)|(simp [*];done)),H',⟨Nat.le_refl _⟩,by repeat (first|exact Drawn0.refl _|apply Drawn0.step)⟩
 case round=>
  clear H'
  try clear c1
  try clear p2
  obtain ⟨x11_1,rfl,HA,HK1,⟨m1,rfl⟩⟩:=hrel;cases gk with
  |zero=>exact absurd HA.out (by simp [Qce.l0])
  |succ k1=>
   have H:=HA.out;clear HA;simp only [Qce.l0] at H
   by_cases c4:x11_1<(l0.length:Int)
   ·
    rw [if_pos c4] at H;have c4b0:decide (x11_1<(l0.length:Int))=true:=decide_eq_true c4;clear c4
    by_cases c5:0≤x11_1
    ·
     rw [if_pos c5] at H;have c5b0:decide (0≤x11_1)=true:=decide_eq_true c5;clear c5
     by_cases c6:x11_1<(l0.length:Int)
     ·
      rw [if_pos c6] at H;have c6b0:decide (x11_1<(l0.length:Int))=true:=decide_eq_true c6;clear c6;replace H:=Option.bind_eq_some_iff.mp H;obtain ⟨t427,A70,H⟩:=H;replace H:(if t427=true then (Qce.l0 k1 a1 a2 l0 (l0.length:Int) (wrap64 (x11_1+1))) else (some false))=some r:=H;have A7:=Aside0.mk A70;clear A70
      by_cases c8:t427=true
      ·
       subst c8;have H1:(Qce.l0 k1 a1 a2 l0 (l0.length:Int) (wrap64 (x11_1+1)))=some r:=by rw [if_pos rfl] at H;exact H
       clear H;have H:=H1;clear H1;have H':=Aside0.mk H;clear H;have p426:0≤(x11_1:Int):=of_decide_eq_true (by first|(with_reducible assumption)|assumption);have q426:x11_1<(l0.length:Int):=of_decide_eq_true (by first|(with_reducible assumption)|assumption);obtain ⟨ad426,e426,hx426_0⟩:=Kd.at_int HR0.out x11_1 p426 q426;cases e426;replace p426:=eq_true p426;replace q426:=eq_true q426;go_wp2_with (first|((with_reducible refine Qk (f:=95) rfl ?_);refine Q6 (some 18) rfl rfl Try.func95 (by kernel_rfl) rfl #[.int .i64 (rd l0 x11_1), .int .i64 a1, .int .i64 a2] rfl (by (try simp only [List.map_toArray,List.map_cons,List.map_nil]);first|done|rfl|(simp only [List.length_drop,List.length_take];rfl)) ?_;(with_reducible refine (Qcq.calls (rd l0 x11_1) a1 a2 true _ A7.out).mono ?_);rintro e w' ⟨rfl,⟨nd,rfl⟩⟩;refine ⟨_,rfl,?_⟩));go_roundg k1
       case measure=>have:=HK1.out;omega
       case rel=>exact ⟨(wrap64 (x11_1+1)),(by first|rfl|(simp;done)|(simp [*];done)),H',⟨by have:=HK1.out;omega⟩,by repeat (first|exact Drawn0.refl _|apply Drawn0.step)⟩
      ·
       replace c8:=Bool.eq_false_iff.mpr c8;subst c8;have H1:(some false)=some r:=by rw [if_neg (show ¬ (false=true) by decide)] at H;exact H
       clear H;have H:=H1;clear H1;obtain rfl:=Option.some.inj H;have p426:0≤(x11_1:Int):=of_decide_eq_true (by first|(with_reducible assumption)|assumption);have q426:x11_1<(l0.length:Int):=of_decide_eq_true (by first|(with_reducible assumption)|assumption);obtain ⟨ad426,e426,hx426_0⟩:=Kd.at_int HR0.out x11_1 p426 q426;cases e426;replace p426:=eq_true p426;replace q426:=eq_true q426;go_wp2_with (first|((with_reducible refine Qk (f:=95) rfl ?_);refine Q6 (some 18) rfl rfl Try.func95 (by kernel_rfl) rfl #[.int .i64 (rd l0 x11_1), .int .i64 a1, .int .i64 a2] rfl (by (try simp only [List.map_toArray,List.map_cons,List.map_nil]);first|done|rfl|(simp only [List.length_drop,List.length_take];rfl)) ?_;(with_reducible refine (Qcq.calls (rd l0 x11_1) a1 a2 false _ A7.out).mono ?_);rintro e w' ⟨rfl,⟨nd,rfl⟩⟩;refine ⟨_,rfl,?_⟩))
       go_ret
       exact ⟨by first|rfl|(simp;done)|(simp [*];done),by repeat (first|exact Drawn0.refl _|apply Drawn0.step)⟩
     ·
      rw [if_neg c6] at H;exact absurd H (by simp)
    ·
     rw [if_neg c5] at H;exact absurd H (by simp)
   ·
    rw [if_neg c4] at H;have c4b0:decide (x11_1<(l0.length:Int))=false:=decide_eq_false c4;clear c4;obtain rfl:=Option.some.inj H;go_wp2
    go_ret
    exact ⟨by first|rfl|(simp;done)|(simp [*];done),by repeat (first|exact Drawn0.refl _|apply Drawn0.step)⟩
mutual
def Qbr.l0 : Nat → List Int → List Int → Int → Int → Option (Bool)
 |0,_,_,_,_=>none
 |k+1,x1,x15,x16,x17=>if x17<x16 then (if 0≤x17 then (if x17<(x15.length:Int) then (Qbr.l1 k x1 x17 (rd x15 x17) 0 x15 x16 x17) else (none)) else (none)) else (some true)
def Qbr.l1 : Nat → List Int → Int → Int → Int → List Int → Int → Int → Option (Bool)
 |0,_,_,_,_,_,_,_=>none
 |k+1,x1,x7,x8,x9,x15,x16,x17=>if x9<x7 then ((Qcr.f x8 x9).bind fun t431=>(if t431=true then (if 0≤x9 then (if x9<(x1.length:Int) then (if 0≤x7 then (if x7<(x1.length:Int) then (if (rd x1 x9)>(rd x1 x7) then (some false) else (Qbr.l1 k x1 x7 x8 (wrap64 (x9+1)) x15 x16 x17)) else (none)) else (none)) else (none)) else (none)) else (Qbr.l1 k x1 x7 x8 (wrap64 (x9+1)) x15 x16 x17))) else (Qbr.l0 k x1 x15 x16 (wrap64 (x17+1)))
end
def Qbr.f (k : Nat) (l0_0 : List Int) (l1 : List Int) (a2 : Int) : Option (Bool) := (Qce.f k l1 0 a2).bind fun t429 => (if t429 = true then (Qbr.l0 k l1 l0_0 (l0_0.length : Int) 0) else (some false))
theorem Qbr.mono_l : ∀ k, (∀ y0 y1 y2 y3, LeO (Qbr.l0 k y0 y1 y2 y3) (Qbr.l0 (k + 1) y0 y1 y2 y3)) ∧ (∀ y0 y1 y2 y3 y4 y5 y6, LeO (Qbr.l1 k y0 y1 y2 y3 y4 y5 y6) (Qbr.l1 (k + 1) y0 y1 y2 y3 y4 y5 y6))
 |0=>⟨fun _ _ _ _ r h=>by simp [Qbr.l0] at h,fun _ _ _ _ _ _ _ r h=>by simp [Qbr.l1] at h⟩
 |k+1=>by
  obtain ⟨ih0,ih1⟩:=Qbr.mono_l k;refine ⟨?_,?_⟩
  ·
   intro y0 y1 y2 y3;unfold Qbr.l0
   repeat' first
   |(with_reducible exact ih0 _ _ _ _)
   |(with_reducible exact ih1 _ _ _ _ _ _ _)
   |(with_reducible exact Qce.mono _ _ _ _)
   |(with_reducible exact LeO.refl _)
   |(with_reducible exact LeO.none _)
   |(with_reducible refine LeO.ite ?_ ?_)
   |(with_reducible refine LeO.bind ?_ (fun _=> ?_))
   |exact ih0 _ _ _ _
   |exact ih1 _ _ _ _ _ _ _
   |exact Qce.mono _ _ _ _
   |exact LeO.none _
   |refine LeO.ite ?_ ?_
   |refine LeO.bind ?_ (fun _=> ?_)
  ·
   intro y0 y1 y2 y3 y4 y5 y6;unfold Qbr.l1
   repeat' first
   |(with_reducible exact ih0 _ _ _ _)
   |(with_reducible exact ih1 _ _ _ _ _ _ _)
   |(with_reducible exact Qce.mono _ _ _ _)
   |(with_reducible exact LeO.refl _)
   |(with_reducible exact LeO.none _)
   |(with_reducible refine LeO.ite ?_ ?_)
   |(with_reducible refine LeO.bind ?_ (fun _=> ?_))
   |exact ih0 _ _ _ _
   |exact ih1 _ _ _ _ _ _ _
   |exact Qce.mono _ _ _ _
   |exact LeO.none _
   |refine LeO.ite ?_ ?_
   |refine LeO.bind ?_ (fun _=> ?_)
theorem Qbr.mono : ∀ a0 a1 a2 k, LeO (Qbr.f k a0 a1 a2) (Qbr.f (k + 1) a0 a1 a2) := by
 intro a0 a1 a2 k;obtain ⟨ih0,ih1⟩:=Qbr.mono_l k;unfold Qbr.f
 repeat' first
  |(with_reducible exact ih0 _ _ _ _)
  |(with_reducible exact ih1 _ _ _ _ _ _ _)
  |(with_reducible exact Qce.mono _ _ _ _)
  |(with_reducible exact LeO.refl _)
  |(with_reducible exact LeO.none _)
  |(with_reducible refine LeO.ite ?_ ?_)
  |(with_reducible refine LeO.bind ?_ (fun _=> ?_))
  |exact ih0 _ _ _ _
  |exact ih1 _ _ _ _ _ _ _
  |exact Qce.mono _ _ _ _
  |exact LeO.none _
  |refine LeO.ite ?_ ?_
  |refine LeO.bind ?_ (fun _=> ?_)
set_option maxHeartbeats 8000000 in
set_option maxRecDepth 100000 in
theorem Qbr.calls (k : Nat) (A0_0 : Option Addr) (c0_0 : Nat) (l0_0 : List Int) (A1 : Option Addr) (c1 : Nat) (l1 : List Int) (a2 : Int) (r : Bool) (w : World) (hr0_0 : Kd.C (Kd.int .i64) w A0_0 l0_0.length l0_0) (hc0_0 : l0_0.length ≤ c0_0) (hr1 : Kd.C (Kd.int .i64) w A1 l1.length l1) (hc1 : l1.length ≤ c1) (h : Qbr.f k l0_0 l1 a2 = some r) :
 Calls Try.prog 90 #[.agg #[.slice A0_0 l0_0.length c0_0], .slice A1 l1.length c1, .int .i64 a2] w fun e w'=>e= .returned (.bool r)∧Below w.heap.size w w':=by
 have hu26:=Try.underlying26;have HR0_0:=Aside0.mk hr0_0;have HC0_0:=Aside0.mk hc0_0;clear hr0_0 hc0_0;have HR1:=Aside0.mk hr1;have HC1:=Aside0.mk hc1;clear hr1 hc1;have HB:=Aside0.mk (Below.refl w.heap.size w);have H:((Qce.f k l1 0 a2).bind fun t429=>(if t429=true then (Qbr.l0 k l1 l0_0 (l0_0.length:Int) 0) else (some false)))=some r:=h;clear h;replace H:=Option.bind_eq_some_iff.mp H;obtain ⟨t429,A40,H⟩:=H;replace H:(if t429=true then (Qbr.l0 k l1 l0_0 (l0_0.length:Int) 0) else (some false))=some r:=H;have A4:=Aside0.mk A40;clear A40
 by_cases c5:t429=true
 ·
  subst c5;have H1:(Qbr.l0 k l1 l0_0 (l0_0.length:Int) 0)=some r:=by rw [if_pos rfl] at H;exact H
  clear H;have H:=H1;clear H1;have H':=Aside0.mk H;clear H;go_enter Try.func90,Try.ntmps90;go_wp2_with (first|((with_reducible refine Qbb (N:=3) rfl ?_);refine Qbg ?hg (N:=3) ?hd (cs:= #[.slice A0_0 l0_0.length c0_0]) (t:=26) ?hr ?_;(case hd=>rfl);(case hg=>rfl);(case hr=>first|(go_simp;done)|(go_simp;rfl));intro gb428 hg w6 hbox hb;have BK428:=Aside0.mk (hbox);have GW428:=Aside0.mk ((by rw [hg];exact (Qq (by repeat (first|(with_reducible first|exact HB.out|apply Qc|apply Qa|apply Qd)|exact HB.out))):w.heap.size≤gb428));have GE428:=GW428;replace HB:=Aside0.mk (Qj (by repeat (first|(with_reducible first|exact HB.out|apply Qc|apply Qa|apply Qd)|exact HB.out)) hb);clear hb hbox hg)|(go_at_call 121;(with_reducible refine (Qce.calls k _ _ l1 0 a2 true _ ?side1 ?side2 A4.out).mono ?_);(case side1=>repeat (first|exact (Kd.C_below HR1.out HB.out)|(with_reducible refine Kd.C_alloc ?_ _)|(with_reducible refine Kd.C_drewN ?_ _)|(with_reducible refine Kd.C_drew ?_)));(case side2=>exact HC1.out);rintro e w' ⟨rfl,⟨nd,rfl⟩⟩;(try first|exact ⟨rfl,_,World.drewN_drewN _ _ _⟩|exact ⟨rfl,_,Eq.trans (World.drewN_drewN _ _ _) (congrArg (World.drewN _) (Nat.add_assoc _ _ _))⟩);have hcz7_0:w6.cell? ⟨gb428,0,none⟩=some (.slice A0_0 l0_0.length c0_0):=(Qx BK428.out 0).trans rfl;have hfz7_0:=Qp BK428.out 0))
  repeat (go_quiet (first|((with_reducible refine Qbb (N:=3) rfl ?_);refine Qbg ?hg (N:=3) ?hd (cs:= #[.slice A0_0 l0_0.length c0_0]) (t:=26) ?hr ?_;(case hd=>rfl);(case hg=>rfl);(case hr=>first|(go_simp;done)|(go_simp;rfl));intro gb428 hg w6 hbox hb;have BK428:=Aside0.mk (hbox);have GW428:=Aside0.mk ((by rw [hg];exact (Qq (by repeat (first|(with_reducible first|exact HB.out|apply Qc|apply Qa|apply Qd)|exact HB.out))):w.heap.size≤gb428));have GE428:=GW428;replace HB:=Aside0.mk (Qj (by repeat (first|(with_reducible first|exact HB.out|apply Qc|apply Qa|apply Qd)|exact HB.out)) hb);clear hb hbox hg)|(go_at_call 121;(with_reducible refine (Qce.calls k _ _ l1 0 a2 true _ ?side1 ?side2 A4.out).mono ?_);(case side1=>repeat (first|exact (Kd.C_below HR1.out HB.out)|(with_reducible refine Kd.C_alloc ?_ _)|(with_reducible refine Kd.C_drewN ?_ _)|(with_reducible refine Kd.C_drew ?_)));(case side2=>exact HC1.out);rintro e w' ⟨rfl,⟨nd,rfl⟩⟩;(try first|exact ⟨rfl,_,World.drewN_drewN _ _ _⟩|exact ⟨rfl,_,Eq.trans (World.drewN_drewN _ _ _) (congrArg (World.drewN _) (Nat.add_assoc _ _ _))⟩);have hcz7_0:w6.cell? ⟨gb428,0,none⟩=some (.slice A0_0 l0_0.length c0_0):=(Qx BK428.out 0).trans rfl;have hfz7_0:=Qp BK428.out 0));try go_wp2_with (first|((with_reducible refine Qbb (N:=3) rfl ?_);refine Qbg ?hg (N:=3) ?hd (cs:= #[.slice A0_0 l0_0.length c0_0]) (t:=26) ?hr ?_;(case hd=>rfl);(case hg=>rfl);(case hr=>first|(go_simp;done)|(go_simp;rfl));intro gb428 hg w6 hbox hb;have BK428:=Aside0.mk (hbox);have GW428:=Aside0.mk ((by rw [hg];exact (Qq (by repeat (first|(with_reducible first|exact HB.out|apply Qc|apply Qa|apply Qd)|exact HB.out))):w.heap.size≤gb428));have GE428:=GW428;replace HB:=Aside0.mk (Qj (by repeat (first|(with_reducible first|exact HB.out|apply Qc|apply Qa|apply Qd)|exact HB.out)) hb);clear hb hbox hg)|(go_at_call 121;(with_reducible refine (Qce.calls k _ _ l1 0 a2 true _ ?side1 ?side2 A4.out).mono ?_);(case side1=>repeat (first|exact (Kd.C_below HR1.out HB.out)|(with_reducible refine Kd.C_alloc ?_ _)|(with_reducible refine Kd.C_drewN ?_ _)|(with_reducible refine Kd.C_drew ?_)));(case side2=>exact HC1.out);rintro e w' ⟨rfl,⟨nd,rfl⟩⟩;(try first|exact ⟨rfl,_,World.drewN_drewN _ _ _⟩|exact ⟨rfl,_,Eq.trans (World.drewN_drewN _ _ _) (congrArg (World.drewN _) (Nat.add_assoc _ _ _))⟩);have hcz7_0:w6.cell? ⟨gb428,0,none⟩=some (.slice A0_0 l0_0.length c0_0):=(Qx BK428.out 0).trans rfl;have hfz7_0:=Qp BK428.out 0)))
  go_loopg [17] k (fun kq v17 w'=> ∃ (x17_1:Int),v17= .int .i64 x17_1∧Aside0 (Qbr.l0 kq l1 l0_0 (l0_0.length:Int) x17_1=some r)∧Aside0 (kq≤k)∧Aside0 (w'.heap[gb428]? =some (.cells #[(.slice A0_0 l0_0.length c0_0)] 26 (0,0)))∧Aside0 (Below w.heap.size w w'))
  case atStart=>exact ⟨(0),(by first|rfl|(simp;done)|(simp [*];done)),H',⟨Nat.le_refl _⟩,⟨by (with_reducible repeat (first|refine Qg ?_ _|refine Qh ?_|refine Qf ?_ _));exact BK428.out⟩,⟨by repeat (first|(with_reducible first|exact HB.out|apply Qc|apply Qa|apply Qd|refine Qe ?_ GE428.out)|exact HB.out)⟩⟩
  case round=>
   clear H'
   try clear c1
   try clear p2
   try clear c5
   try clear hcz7_0
   try clear hfz7_0
   obtain ⟨x17_1,rfl,HA,HK1,BK428,HB⟩:=hrel;cases gk with
   |zero=>exact absurd HA.out (by simp [Qbr.l0])
   |succ k1=>
    have H:=HA.out;clear HA;simp only [Qbr.l0] at H
    by_cases c8:x17_1<(l0_0.length:Int)
    ·
     rw [if_pos c8] at H;have c8b0:decide (x17_1<(l0_0.length:Int))=true:=decide_eq_true c8;clear c8
     by_cases c9:0≤x17_1
     ·
      rw [if_pos c9] at H;have c9b0:decide (0≤x17_1)=true:=decide_eq_true c9;clear c9
      by_cases c10:x17_1<(l0_0.length:Int)
      ·
       rw [if_pos c10] at H;have c10b0:decide (x17_1<(l0_0.length:Int))=true:=decide_eq_true c10;clear c10;have H':=Aside0.mk H;clear H;have p430:0≤(x17_1:Int):=of_decide_eq_true (by first|(with_reducible assumption)|assumption);have q430:x17_1<(l0_0.length:Int):=of_decide_eq_true (by first|(with_reducible assumption)|assumption);obtain ⟨ad430,e430,hx430_0⟩:=Kd.at_int HR0_0.out x17_1 p430 q430;cases e430;replace hx430_0:=(HB.out.cell (World.block_lt_of_cell? w _ hx430_0)).trans hx430_0;replace p430:=eq_true p430;replace q430:=eq_true q430;go_wp2
       repeat (go_quiet (fail);try go_wp2)
       go_loopg [9] k1 (fun kq v9 w'=> ∃ (x9_2:Int),v9= .int .i64 x9_2∧Aside0 (Qbr.l1 kq l1 x17_1 (rd l0_0 x17_1) x9_2 l0_0 (l0_0.length:Int) x17_1=some r)∧Aside0 (kq≤k1)∧Aside0 (w'.heap[gb428]? =some (.cells #[(.slice (some ad430) l0_0.length c0_0)] 26 (0,0)))∧Aside0 (Below w.heap.size w w'))
       case atStart=>exact ⟨(0),(by first|rfl|(simp;done)|(simp [*];done)),H',⟨Nat.le_refl _⟩,⟨by (with_reducible repeat (first|refine Qg ?_ _|refine Qh ?_|refine Qf ?_ _));exact BK428.out⟩,⟨by repeat (first|(with_reducible first|exact HB.out|apply Qc|apply Qa|apply Qd|refine Qe ?_ GE428.out)|exact HB.out)⟩⟩
       case round=>
        clear H'
        try clear c1
        try clear p2
        try clear p4
        try clear q4
        try clear hx4
        try clear c5
        try clear c8
        try clear c8b0
        try clear c9
        try clear c9b0
        try clear c10
        try clear c10b0
        try clear hcz7_0
        try clear hfz7_0
        try clear hx430_0
        try clear p2
        try clear p430
        try clear q430
        obtain ⟨x9_2,rfl,HA,HK2,BK428,HB⟩:=hrel;cases gk with
        |zero=>exact absurd HA.out (by simp [Qbr.l1])
        |succ k2=>
         have H:=HA.out;clear HA;simp only [Qbr.l1] at H
         by_cases c11:x9_2<x17_1
         ·
          rw [if_pos c11] at H;have c11b0:decide (x9_2<x17_1)=true:=decide_eq_true c11;clear c11;replace H:=Option.bind_eq_some_iff.mp H;obtain ⟨t431,A120,H⟩:=H;replace H:(if t431=true then (if 0≤x9_2 then (if x9_2<(l1.length:Int) then (if 0≤x17_1 then (if x17_1<(l1.length:Int) then (if (rd l1 x9_2)>(rd l1 x17_1) then (some false) else (Qbr.l1 k2 l1 x17_1 (rd l0_0 x17_1) (wrap64 (x9_2+1)) l0_0 (l0_0.length:Int) x17_1)) else (none)) else (none)) else (none)) else (none)) else (Qbr.l1 k2 l1 x17_1 (rd l0_0 x17_1) (wrap64 (x9_2+1)) l0_0 (l0_0.length:Int) x17_1))=some r:=H;have A12:=Aside0.mk A120;clear A120
          by_cases c13:t431=true
          ·
           subst c13;have H1:(if 0≤x9_2 then (if x9_2<(l1.length:Int) then (if 0≤x17_1 then (if x17_1<(l1.length:Int) then (if (rd l1 x9_2)>(rd l1 x17_1) then (some false) else (Qbr.l1 k2 l1 x17_1 (rd l0_0 x17_1) (wrap64 (x9_2+1)) l0_0 (l0_0.length:Int) x17_1)) else (none)) else (none)) else (none)) else (none))=some r:=by rw [if_pos rfl] at H;exact H
           clear H;have H:=H1;clear H1
           by_cases c14:0≤x9_2
           ·
            rw [if_pos c14] at H;have c14b0:decide (0≤x9_2)=true:=decide_eq_true c14;clear c14
            by_cases c15:x9_2<(l1.length:Int)
            ·
             rw [if_pos c15] at H;have c15b0:decide (x9_2<(l1.length:Int))=true:=decide_eq_true c15;clear c15
             by_cases c16:0≤x17_1
             ·
              rw [if_pos c16] at H;have c16b0:decide (0≤x17_1)=true:=decide_eq_true c16;clear c16
              by_cases c17:x17_1<(l1.length:Int)
              ·
               rw [if_pos c17] at H;have c17b0:decide (x17_1<(l1.length:Int))=true:=decide_eq_true c17;clear c17
               by_cases c18:(rd l1 x9_2)>(rd l1 x17_1)
               ·
                rw [if_pos c18] at H;have c18b0:decide ((rd l1 x17_1)<(rd l1 x9_2))=true:=decide_eq_true c18;clear c18;obtain rfl:=Option.some.inj H;go_wp2_with (first|(go_at_call 59;(with_reducible refine (Qcr.calls (rd l0_0 x17_1) x9_2 true _ A12.out).mono ?_);rintro e w' ⟨rfl,⟨nd,rfl⟩⟩;(try first|exact ⟨rfl,_,World.drewN_drewN _ _ _⟩|exact ⟨rfl,_,Eq.trans (World.drewN_drewN _ _ _) (congrArg (World.drewN _) (Nat.add_assoc _ _ _))⟩);have p432:0≤(x9_2:Int):=of_decide_eq_true (by first|(with_reducible assumption)|assumption);have q432:x9_2<(l1.length:Int):=of_decide_eq_true (by first|(with_reducible assumption)|assumption);obtain ⟨ad432,e432,hx432_0⟩:=Kd.at_int HR1.out x9_2 p432 q432;cases e432;replace hx432_0:=(HB.out.cell (World.block_lt_of_cell? w _ hx432_0)).trans hx432_0;replace p432:=eq_true p432;replace q432:=eq_true q432;have p433:0≤(x17_1:Int):=of_decide_eq_true (by first|(with_reducible assumption)|assumption);have q433:x17_1<(l1.length:Int):=of_decide_eq_true (by first|(with_reducible assumption)|assumption);obtain ⟨ad433,e433,hx433_0⟩:=Kd.at_int HR1.out x17_1 p433 q433;obtain rfl:ad432=ad433:=(by injection e433);replace hx433_0:=(HB.out.cell (World.block_lt_of_cell? w _ hx433_0)).trans hx433_0;replace p433:=eq_true p433;replace q433:=eq_true q433))
                repeat (go_quiet (first|(go_at_call 59;(with_reducible refine (Qcr.calls (rd l0_0 x17_1) x9_2 true _ A12.out).mono ?_);rintro e w' ⟨rfl,⟨nd,rfl⟩⟩;(try first|exact ⟨rfl,_,World.drewN_drewN _ _ _⟩|exact ⟨rfl,_,Eq.trans (World.drewN_drewN _ _ _) (congrArg (World.drewN _) (Nat.add_assoc _ _ _))⟩);have p432:0≤(x9_2:Int):=of_decide_eq_true (by first|(with_reducible assumption)|assumption);have q432:x9_2<(l1.length:Int):=of_decide_eq_true (by first|(with_reducible assumption)|assumption);obtain ⟨ad432,e432,hx432_0⟩:=Kd.at_int HR1.out x9_2 p432 q432;cases e432;replace hx432_0:=(HB.out.cell (World.block_lt_of_cell? w _ hx432_0)).trans hx432_0;replace p432:=eq_true p432;replace q432:=eq_true q432;have p433:0≤(x17_1:Int):=of_decide_eq_true (by first|(with_reducible assumption)|assumption);have q433:x17_1<(l1.length:Int):=of_decide_eq_true (by first|(with_reducible assumption)|assumption);obtain ⟨ad433,e433,hx433_0⟩:=Kd.at_int HR1.out x17_1 p433 q433;obtain rfl:ad432=ad433:=(by injection e433);replace hx433_0:=(HB.out.cell (World.block_lt_of_cell? w _ hx433_0)).trans hx433_0;replace p433:=eq_true p433;replace q433:=eq_true q433));try go_wp2_with (first|(go_at_call 59;(with_reducible refine (Qcr.calls (rd l0_0 x17_1) x9_2 true _ A12.out).mono ?_);rintro e w' ⟨rfl,⟨nd,rfl⟩⟩;(try first|exact ⟨rfl,_,World.drewN_drewN _ _ _⟩|exact ⟨rfl,_,Eq.trans (World.drewN_drewN _ _ _) (congrArg (World.drewN _) (Nat.add_assoc _ _ _))⟩);have p432:0≤(x9_2:Int):=of_decide_eq_true (by first|(with_reducible assumption)|assumption);have q432:x9_2<(l1.length:Int):=of_decide_eq_true (by first|(with_reducible assumption)|assumption);obtain ⟨ad432,e432,hx432_0⟩:=Kd.at_int HR1.out x9_2 p432 q432;cases e432;replace hx432_0:=(HB.out.cell (World.block_lt_of_cell? w _ hx432_0)).trans hx432_0;replace p432:=eq_true p432;replace q432:=eq_true q432;have p433:0≤(x17_1:Int):=of_decide_eq_true (by first|(with_reducible assumption)|assumption);have q433:x17_1<(l1.length:Int):=of_decide_eq_true (by first|(with_reducible assumption)|assumption);obtain ⟨ad433,e433,hx433_0⟩:=Kd.at_int HR1.out x17_1 p433 q433;obtain rfl:ad432=ad433:=(by injection e433);replace hx433_0:=(HB.out.cell (World.block_lt_of_cell? w _ hx433_0)).trans hx433_0;replace p433:=eq_true p433;replace q433:=eq_true q433)))
                go_ret
                exact ⟨by first|rfl|(simp [Qm,Ql] <;>rfl)|(simp [*,Qm,Ql] <;>rfl),by repeat (first|(with_reducible first|exact HB.out|apply Qc|apply Qa|apply Qd|refine Qe ?_ GE428.out)|exact HB.out)⟩
               ·
                rw [if_neg c18] at H;have c18b0:decide ((rd l1 x17_1)<(rd l1 x9_2))=false:=decide_eq_false c18;clear c18;have H':=Aside0.mk H;clear H;go_wp2_with (first|(go_at_call 59;(with_reducible refine (Qcr.calls (rd l0_0 x17_1) x9_2 true _ A12.out).mono ?_);rintro e w' ⟨rfl,⟨nd,rfl⟩⟩;(try first|exact ⟨rfl,_,World.drewN_drewN _ _ _⟩|exact ⟨rfl,_,Eq.trans (World.drewN_drewN _ _ _) (congrArg (World.drewN _) (Nat.add_assoc _ _ _))⟩);have p432:0≤(x9_2:Int):=of_decide_eq_true (by first|(with_reducible assumption)|assumption);have q432:x9_2<(l1.length:Int):=of_decide_eq_true (by first|(with_reducible assumption)|assumption);obtain ⟨ad432,e432,hx432_0⟩:=Kd.at_int HR1.out x9_2 p432 q432;cases e432;replace hx432_0:=(HB.out.cell (World.block_lt_of_cell? w _ hx432_0)).trans hx432_0;replace p432:=eq_true p432;replace q432:=eq_true q432;have p433:0≤(x17_1:Int):=of_decide_eq_true (by first|(with_reducible assumption)|assumption);have q433:x17_1<(l1.length:Int):=of_decide_eq_true (by first|(with_reducible assumption)|assumption);obtain ⟨ad433,e433,hx433_0⟩:=Kd.at_int HR1.out x17_1 p433 q433;obtain rfl:ad432=ad433:=(by injection e433);replace hx433_0:=(HB.out.cell (World.block_lt_of_cell? w _ hx433_0)).trans hx433_0;replace p433:=eq_true p433;replace q433:=eq_true q433))
                repeat (go_quiet (first|(go_at_call 59;(with_reducible refine (Qcr.calls (rd l0_0 x17_1) x9_2 true _ A12.out).mono ?_);rintro e w' ⟨rfl,⟨nd,rfl⟩⟩;(try first|exact ⟨rfl,_,World.drewN_drewN _ _ _⟩|exact ⟨rfl,_,Eq.trans (World.drewN_drewN _ _ _) (congrArg (World.drewN _) (Nat.add_assoc _ _ _))⟩);have p432:0≤(x9_2:Int):=of_decide_eq_true (by first|(with_reducible assumption)|assumption);have q432:x9_2<(l1.length:Int):=of_decide_eq_true (by first|(with_reducible assumption)|assumption);obtain ⟨ad432,e432,hx432_0⟩:=Kd.at_int HR1.out x9_2 p432 q432;cases e432;replace hx432_0:=(HB.out.cell (World.block_lt_of_cell? w _ hx432_0)).trans hx432_0;replace p432:=eq_true p432;replace q432:=eq_true q432;have p433:0≤(x17_1:Int):=of_decide_eq_true (by first|(with_reducible assumption)|assumption);have q433:x17_1<(l1.length:Int):=of_decide_eq_true (by first|(with_reducible assumption)|assumption);obtain ⟨ad433,e433,hx433_0⟩:=Kd.at_int HR1.out x17_1 p433 q433;obtain rfl:ad432=ad433:=(by injection e433);replace hx433_0:=(HB.out.cell (World.block_lt_of_cell? w _ hx433_0)).trans hx433_0;replace p433:=eq_true p433;replace q433:=eq_true q433));try go_wp2_with (first|(go_at_call 59;(with_reducible refine (Qcr.calls (rd l0_0 x17_1) x9_2 true _ A12.out).mono ?_);rintro e w' ⟨rfl,⟨nd,rfl⟩⟩;(try first|exact ⟨rfl,_,World.drewN_drewN _ _ _⟩|exact ⟨rfl,_,Eq.trans (World.drewN_drewN _ _ _) (congrArg (World.drewN _) (Nat.add_assoc _ _ _))⟩);have p432:0≤(x9_2:Int):=of_decide_eq_true (by first|(with_reducible assumption)|assumption);have q432:x9_2<(l1.length:Int):=of_decide_eq_true (by first|(with_reducible assumption)|assumption);obtain ⟨ad432,e432,hx432_0⟩:=Kd.at_int HR1.out x9_2 p432 q432;cases e432;replace hx432_0:=(HB.out.cell (World.block_lt_of_cell? w _ hx432_0)).trans hx432_0;replace p432:=eq_true p432;replace q432:=eq_true q432;have p433:0≤(x17_1:Int):=of_decide_eq_true (by first|(with_reducible assumption)|assumption);have q433:x17_1<(l1.length:Int):=of_decide_eq_true (by first|(with_reducible assumption)|assumption);obtain ⟨ad433,e433,hx433_0⟩:=Kd.at_int HR1.out x17_1 p433 q433;obtain rfl:ad432=ad433:=(by injection e433);replace hx433_0:=(HB.out.cell (World.block_lt_of_cell? w _ hx433_0)).trans hx433_0;replace p433:=eq_true p433;replace q433:=eq_true q433)))
                go_roundg k2
                case measure=>have:=HK1.out;have:=HK2.out;omega
                case rel=>exact ⟨(wrap64 (x9_2+1)),(by first|rfl|(simp;done)|(simp [*];done)),H',⟨by have:=HK1.out;have:=HK2.out;omega⟩,⟨by (with_reducible repeat (first|refine Qg ?_ _|refine Qh ?_|refine Qf ?_ _));exact BK428.out⟩,⟨by repeat (first|(with_reducible first|exact HB.out|apply Qc|apply Qa|apply Qd|refine Qe ?_ GE428.out)|exact HB.out)⟩⟩
              ·
               rw [if_neg c17] at H;exact absurd H (by simp)
             ·
              rw [if_neg c16] at H;exact absurd H (by simp)
            ·
             rw [if_neg c15] at H;exact absurd H (by simp)
           ·
            rw [if_neg c14] at H;exact absurd H (by simp)
          ·
           replace c13:=Bool.eq_false_iff.mpr c13;subst c13;have H1:(Qbr.l1 k2 l1 x17_1 (rd l0_0 x17_1) (wrap64 (x9_2+1)) l0_0 (l0_0.length:Int) x17_1)=some r:=by rw [if_neg (show ¬ (false=true) by decide)] at H;exact H
           clear H;have H:=H1;clear H1;have H':=Aside0.mk H;clear H;go_wp2_with (first|(go_at_call 59;(with_reducible refine (Qcr.calls (rd l0_0 x17_1) x9_2 false _ A12.out).mono ?_);rintro e w' ⟨rfl,⟨nd,rfl⟩⟩;(try first|exact ⟨rfl,_,World.drewN_drewN _ _ _⟩|exact ⟨rfl,_,Eq.trans (World.drewN_drewN _ _ _) (congrArg (World.drewN _) (Nat.add_assoc _ _ _))⟩)))
           repeat (go_quiet (first|(go_at_call 59;(with_reducible refine (Qcr.calls (rd l0_0 x17_1) x9_2 false _ A12.out).mono ?_);rintro e w' ⟨rfl,⟨nd,rfl⟩⟩;(try first|exact ⟨rfl,_,World.drewN_drewN _ _ _⟩|exact ⟨rfl,_,Eq.trans (World.drewN_drewN _ _ _) (congrArg (World.drewN _) (Nat.add_assoc _ _ _))⟩)));try go_wp2_with (first|(go_at_call 59;(with_reducible refine (Qcr.calls (rd l0_0 x17_1) x9_2 false _ A12.out).mono ?_);rintro e w' ⟨rfl,⟨nd,rfl⟩⟩;(try first|exact ⟨rfl,_,World.drewN_drewN _ _ _⟩|exact ⟨rfl,_,Eq.trans (World.drewN_drewN _ _ _) (congrArg (World.drewN _) (Nat.add_assoc _ _ _))⟩))))
           go_roundg k2
           case measure=>have:=HK1.out;have:=HK2.out;omega
           case rel=>exact ⟨(wrap64 (x9_2+1)),(by first|rfl|(simp;done)|(simp [*];done)),H',⟨by have:=HK1.out;have:=HK2.out;omega⟩,⟨by (with_reducible repeat (first|refine Qg ?_ _|refine Qh ?_|refine Qf ?_ _));exact BK428.out⟩,⟨by repeat (first|(with_reducible first|exact HB.out|apply Qc|apply Qa|apply Qd|refine Qe ?_ GE428.out)|exact HB.out)⟩⟩
         ·
          rw [if_neg c11] at H;have c11b0:decide (x9_2<x17_1)=false:=decide_eq_false c11;clear c11;have H':=Aside0.mk H;clear H;go_wp2
          repeat (go_quiet (fail);try go_wp2)
          go_roundg k2
          case measure=>have:=HK1.out;have:=HK2.out;omega
          case rel=>exact ⟨(wrap64 (x17_1+1)),(by first|rfl|(simp;done)|(simp [*];done)),H',⟨by have:=HK1.out;have:=HK2.out;omega⟩,⟨by (with_reducible repeat (first|refine Qg ?_ _|refine Qh ?_|refine Qf ?_ _));exact BK428.out⟩,⟨by repeat (first|(with_reducible first|exact HB.out|apply Qc|apply Qa|apply Qd|refine Qe ?_ GE428.out)|exact HB.out)⟩⟩
      ·
       rw [if_neg c10] at H;exact absurd H (by simp)
     ·
      rw [if_neg c9] at H;exact absurd H (by simp)
    ·
     rw [if_neg c8] at H;have c8b0:decide (x17_1<(l0_0.length:Int))=false:=decide_eq_false c8;clear c8;obtain rfl:=Option.some.inj H;go_wp2
     repeat (go_quiet (fail);try go_wp2)
     go_ret
     exact ⟨by first|rfl|(simp [Qm,Ql] <;>rfl)|(simp [*,Qm,Ql] <;>rfl),by repeat (first|(with_reducible first|exact HB.out|apply Qc|apply Qa|apply Qd|refine Qe ?_ GE428.out)|exact HB.out)⟩
 ·
  replace c5:=Bool.eq_false_iff.mpr c5;subst c5;have H1:(some false)=some r:=by rw [if_neg (show ¬ (false=true) by decide)] at H;exact H
  clear H;have H:=H1;clear H1;obtain rfl:=Option.some.inj H;go_enter Try.func90,Try.ntmps90;go_wp2_with (first|((with_reducible refine Qbb (N:=3) rfl ?_);refine Qbg ?hg (N:=3) ?hd (cs:= #[.slice A0_0 l0_0.length c0_0]) (t:=26) ?hr ?_;(case hd=>rfl);(case hg=>rfl);(case hr=>first|(go_simp;done)|(go_simp;rfl));intro gb428 hg w19 hbox hb;have BK428:=Aside0.mk (hbox);have GW428:=Aside0.mk ((by rw [hg];exact (Qq (by repeat (first|(with_reducible first|exact HB.out|apply Qc|apply Qa|apply Qd)|exact HB.out))):w.heap.size≤gb428));have GE428:=GW428;replace HB:=Aside0.mk (Qj (by repeat (first|(with_reducible first|exact HB.out|apply Qc|apply Qa|apply Qd)|exact HB.out)) hb);clear hb hbox hg)|(go_at_call 121;(with_reducible refine (Qce.calls k _ _ l1 0 a2 false _ ?side1 ?side2 A4.out).mono ?_);(case side1=>repeat (first|exact (Kd.C_below HR1.out HB.out)|(with_reducible refine Kd.C_alloc ?_ _)|(with_reducible refine Kd.C_drewN ?_ _)|(with_reducible refine Kd.C_drew ?_)));(case side2=>exact HC1.out);rintro e w' ⟨rfl,⟨nd,rfl⟩⟩;(try first|exact ⟨rfl,_,World.drewN_drewN _ _ _⟩|exact ⟨rfl,_,Eq.trans (World.drewN_drewN _ _ _) (congrArg (World.drewN _) (Nat.add_assoc _ _ _))⟩)))
  repeat (go_quiet (first|((with_reducible refine Qbb (N:=3) rfl ?_);refine Qbg ?hg (N:=3) ?hd (cs:= #[.slice A0_0 l0_0.length c0_0]) (t:=26) ?hr ?_;(case hd=>rfl);(case hg=>rfl);(case hr=>first|(go_simp;done)|(go_simp;rfl));intro gb428 hg w19 hbox hb;have BK428:=Aside0.mk (hbox);have GW428:=Aside0.mk ((by rw [hg];exact (Qq (by repeat (first|(with_reducible first|exact HB.out|apply Qc|apply Qa|apply Qd)|exact HB.out))):w.heap.size≤gb428));have GE428:=GW428;replace HB:=Aside0.mk (Qj (by repeat (first|(with_reducible first|exact HB.out|apply Qc|apply Qa|apply Qd)|exact HB.out)) hb);clear hb hbox hg)|(go_at_call 121;(with_reducible refine (Qce.calls k _ _ l1 0 a2 false _ ?side1 ?side2 A4.out).mono ?_);(case side1=>repeat (first|exact (Kd.C_below HR1.out HB.out)|(with_reducible refine Kd.C_alloc ?_ _)|(with_reducible refine Kd.C_drewN ?_ _)|(with_reducible refine Kd.C_drew ?_)));(case side2=>exact HC1.out);rintro e w' ⟨rfl,⟨nd,rfl⟩⟩;(try first|exact ⟨rfl,_,World.drewN_drewN _ _ _⟩|exact ⟨rfl,_,Eq.trans (World.drewN_drewN _ _ _) (congrArg (World.drewN _) (Nat.add_assoc _ _ _))⟩)));try go_wp2_with (first|((with_reducible refine Qbb (N:=3) rfl ?_);refine Qbg ?hg (N:=3) ?hd (cs:= #[.slice A0_0 l0_0.length c0_0]) (t:=26) ?hr ?_;(case hd=>rfl);(case hg=>rfl);(case hr=>first|(go_simp;done)|(go_simp;rfl));intro gb428 hg w19 hbox hb;have BK428:=Aside0.mk (hbox);have GW428:=Aside0.mk ((by rw [hg];exact (Qq (by repeat (first|(with_reducible first|exact HB.out|apply Qc|apply Qa|apply Qd)|exact HB.out))):w.heap.size≤gb428));have GE428:=GW428;replace HB:=Aside0.mk (Qj (by repeat (first|(with_reducible first|exact HB.out|apply Qc|apply Qa|apply Qd)|exact HB.out)) hb);clear hb hbox hg)|(go_at_call 121;(with_reducible refine (Qce.calls k _ _ l1 0 a2 false _ ?side1 ?side2 A4.out).mono ?_);(case side1=>repeat (first|exact (Kd.C_below HR1.out HB.out)|(with_reducible refine Kd.C_alloc ?_ _)|(with_reducible refine Kd.C_drewN ?_ _)|(with_reducible refine Kd.C_drew ?_)));(case side2=>exact HC1.out);rintro e w' ⟨rfl,⟨nd,rfl⟩⟩;(try first|exact ⟨rfl,_,World.drewN_drewN _ _ _⟩|exact ⟨rfl,_,Eq.trans (World.drewN_drewN _ _ _) (congrArg (World.drewN _) (Nat.add_assoc _ _ _))⟩))))
  go_ret
  exact ⟨by first|rfl|(simp [Qm,Ql] <;>rfl)|(simp [*,Qm,Ql] <;>rfl),by repeat (first|(with_reducible first|exact HB.out|apply Qc|apply Qa|apply Qd|refine Qe ?_ GE428.out)|exact HB.out)⟩
def Qcm.f (k : Nat) (l0_0 : List Int) (l1 : List Int) (a2 : Int) : Option (Bool) := (Qbx.f k l0_0).bind fun t435 => (if t435 = true then ((Qdd.f a2).bind fun t436 => (if t436 = true then (if (l1.length : Int) = (l0_0.length : Int) then ((Qbr.f k l0_0 l1 a2).bind fun t437 => (some t437)) else (some false)) else (some false))) else (some false))
theorem Qcm.mono : ∀ a0 a1 a2 k, LeO (Qcm.f k a0 a1 a2) (Qcm.f (k + 1) a0 a1 a2) := by
 intro a0 a1 a2 k;unfold Qcm.f
 repeat' first
  |(with_reducible exact Qbr.mono _ _ _ _)
  |(with_reducible exact Qbx.mono _ _)
  |(with_reducible exact LeO.refl _)
  |(with_reducible exact LeO.none _)
  |(with_reducible refine LeO.ite ?_ ?_)
  |(with_reducible refine LeO.bind ?_ (fun _=> ?_))
  |exact Qbr.mono _ _ _ _
  |exact Qbx.mono _ _
  |exact LeO.none _
  |refine LeO.ite ?_ ?_
  |refine LeO.bind ?_ (fun _=> ?_)
set_option maxHeartbeats 8000000 in
set_option maxRecDepth 100000 in
theorem Qcm.calls (k : Nat) (A0_0 : Option Addr) (c0_0 : Nat) (l0_0 : List Int) (A1 : Option Addr) (c1 : Nat) (l1 : List Int) (a2 : Int) (r : Bool) (w : World) (hr0_0 : Kd.C (Kd.int .i64) w A0_0 l0_0.length l0_0) (hc0_0 : l0_0.length ≤ c0_0) (hr1 : Kd.C (Kd.int .i64) w A1 l1.length l1) (hc1 : l1.length ≤ c1) (h : Qcm.f k l0_0 l1 a2 = some r) :
 Calls Try.prog 69 #[.agg #[.slice A0_0 l0_0.length c0_0], .slice A1 l1.length c1, .int .i64 a2] w fun e w'=>e= .returned (.bool r)∧Below w.heap.size w w':=by
 have hu26:=Try.underlying26;have HR0_0:=Aside0.mk hr0_0;have HC0_0:=Aside0.mk hc0_0;clear hr0_0 hc0_0;have HR1:=Aside0.mk hr1;have HC1:=Aside0.mk hc1;clear hr1 hc1;have HB:=Aside0.mk (Below.refl w.heap.size w);have H:((Qbx.f k l0_0).bind fun t435=>(if t435=true then ((Qdd.f a2).bind fun t436=>(if t436=true then (if (l1.length:Int)=(l0_0.length:Int) then ((Qbr.f k l0_0 l1 a2).bind fun t437=>(some t437)) else (some false)) else (some false))) else (some false)))=some r:=h;clear h;replace H:=Option.bind_eq_some_iff.mp H;obtain ⟨t435,A40,H⟩:=H;replace H:(if t435=true then ((Qdd.f a2).bind fun t436=>(if t436=true then (if (l1.length:Int)=(l0_0.length:Int) then ((Qbr.f k l0_0 l1 a2).bind fun t437=>(some t437)) else (some false)) else (some false))) else (some false))=some r:=H;have A4:=Aside0.mk A40;clear A40
 by_cases c5:t435=true
 ·
  subst c5;have H1:((Qdd.f a2).bind fun t436=>(if t436=true then (if (l1.length:Int)=(l0_0.length:Int) then ((Qbr.f k l0_0 l1 a2).bind fun t437=>(some t437)) else (some false)) else (some false)))=some r:=by rw [if_pos rfl] at H;exact H
  clear H;have H:=H1;clear H1;replace H:=Option.bind_eq_some_iff.mp H;obtain ⟨t436,A60,H⟩:=H;replace H:(if t436=true then (if (l1.length:Int)=(l0_0.length:Int) then ((Qbr.f k l0_0 l1 a2).bind fun t437=>(some t437)) else (some false)) else (some false))=some r:=H;have A6:=Aside0.mk A60;clear A60
  by_cases c7:t436=true
  ·
   subst c7;have H1:(if (l1.length:Int)=(l0_0.length:Int) then ((Qbr.f k l0_0 l1 a2).bind fun t437=>(some t437)) else (some false))=some r:=by rw [if_pos rfl] at H;exact H
   clear H;have H:=H1;clear H1
   by_cases c8:(l1.length:Int)=(l0_0.length:Int)
   ·
    rw [if_pos c8] at H;have c8b0:((l1.length:Int)==(l0_0.length:Int))=true:=beq_iff_eq.mpr c8;have c8b1:((l1.length:Int) !=(l0_0.length:Int))=false:=bne_eq_false_iff_eq.mpr c8;have c8b2:(l1.length==l0_0.length)=true:=by first|simpa using c8|(simp at c8 ⊢;omega)
    clear c8;replace H:=Option.bind_eq_some_iff.mp H;obtain ⟨t437,A90,H⟩:=H;replace H:(some t437)=some r:=H;have A9:=Aside0.mk A90;clear A90;obtain rfl:=Option.some.inj H;go_enter Try.func69,Try.ntmps69;go_wp2_with (first|((with_reducible refine Qbb (N:=3) rfl ?_);(try (refine Qdr (by rfl) ?_;dsimp only));refine Qbg ?hg (N:=3) ?hd (cs:= #[.slice A0_0 l0_0.length c0_0]) (t:=26) ?hr ?_;(case hd=>rfl);(case hg=>rfl);(case hr=>first|(go_simp;done)|(go_simp;rfl));intro gb434 hg w10 hbox hb;have BK434:=Aside0.mk (hbox);have GW434:=Aside0.mk ((by rw [hg];exact (Qq (by repeat (first|(with_reducible first|exact HB.out|apply Qc|apply Qa|apply Qd)|exact HB.out))):w.heap.size≤gb434));have GE434:=GW434;replace HB:=Aside0.mk (Qj (by repeat (first|(with_reducible first|exact HB.out|apply Qc|apply Qa|apply Qd)|exact HB.out)) hb);clear hb hbox hg;have hcz11_0:w10.cell? ⟨gb434,0,none⟩=some (.slice A0_0 l0_0.length c0_0):=(Qx BK434.out 0).trans rfl;have hfz11_0:=Qp BK434.out 0)|((with_reducible refine Qk (f:=88) rfl ?_);refine Q6 (some 8) rfl rfl Try.func88 (by kernel_rfl) rfl #[.agg #[.slice A0_0 l0_0.length c0_0]] rfl (by (try simp only [List.map_toArray,List.map_cons,List.map_nil]);first|done|rfl|(simp only [List.length_drop,List.length_take];rfl)) ?_;(with_reducible refine (Qbx.calls k _ _ l0_0 true _ ?side1 ?side2 A4.out).mono ?_);(case side1=>repeat (first|exact (Kd.C_below HR0_0.out HB.out)|(with_reducible refine Kd.C_alloc ?_ _)|(with_reducible refine Kd.C_drewN ?_ _)|(with_reducible refine Kd.C_drew ?_)));(case side2=>exact HC0_0.out);rintro e w12 ⟨rfl,hb⟩;refine ⟨_,rfl,?_⟩;replace BK434:=Aside0.mk (Qu (g:=gb434) (o:= .cells #[.slice A0_0 l0_0.length c0_0] 26 (0,0)) (by (with_reducible repeat (first|refine Qg ?_ _|refine Qh ?_|refine Qf ?_ _));exact BK434.out) hb);replace HB:=Aside0.mk (Qj (by repeat (first|(with_reducible first|exact HB.out|apply Qc|apply Qa|apply Qd|refine Qe ?_ GE434.out)|exact HB.out)) hb);(try clear hb);(try clear hb2);(try clear hk);(try clear hi))|(go_at_call 89;(with_reducible refine (Qdd.calls a2 true _ A6.out).mono ?_);rintro e w' ⟨rfl,⟨nd,rfl⟩⟩;have hcz13_0:w12.cell? ⟨gb434,0,none⟩=some (.slice A0_0 l0_0.length c0_0):=(Qx BK434.out 0).trans rfl;have hfz13_0:=Qp BK434.out 0)|(go_at_call 90;(with_reducible refine (Qbr.calls k _ _ l0_0 _ _ l1 a2 t437 _ ?side1 ?side2 ?side3 ?side4 A9.out).mono ?_);(case side1=>repeat (first|exact (Kd.C_below HR0_0.out (by repeat (first|(with_reducible first|exact HB.out|apply Qc|apply Qa|apply Qd|refine Qe ?_ GE434.out)|exact HB.out)))|(with_reducible refine Kd.C_alloc ?_ _)|(with_reducible refine Kd.C_drewN ?_ _)|(with_reducible refine Kd.C_drew ?_)));(case side2=>exact HC0_0.out);(case side3=>repeat (first|exact (Kd.C_below HR1.out (by repeat (first|(with_reducible first|exact HB.out|apply Qc|apply Qa|apply Qd|refine Qe ?_ GE434.out)|exact HB.out)))|(with_reducible refine Kd.C_alloc ?_ _)|(with_reducible refine Kd.C_drewN ?_ _)|(with_reducible refine Kd.C_drew ?_)));(case side4=>exact HC1.out);rintro e w14 ⟨rfl,hb⟩;replace BK434:=Aside0.mk (Qu (g:=gb434) (o:= .cells #[.slice A0_0 l0_0.length c0_0] 26 (0,0)) (by (with_reducible repeat (first|refine Qg ?_ _|refine Qh ?_|refine Qf ?_ _));exact BK434.out) hb);replace HB:=Aside0.mk (Qj (by repeat (first|(with_reducible first|exact HB.out|apply Qc|apply Qa|apply Qd|refine Qe ?_ GE434.out)|exact HB.out)) hb);(try clear hb);(try clear hb2);(try clear hk);(try clear hi)))
    go_ret
    exact ⟨by first|rfl|(simp [Qm,Ql] <;>rfl)|(simp [*,Qm,Ql] <;>rfl),by repeat (first|(with_reducible first|exact HB.out|apply Qc|apply Qa|apply Qd|refine Qe ?_ GE434.out)|exact HB.out)⟩
   ·
    rw [if_neg c8] at H;have c8b0:((l1.length:Int)==(l0_0.length:Int))=false:=beq_eq_false_iff_ne.mpr c8;have c8b1:((l1.length:Int) !=(l0_0.length:Int))=true:=bne_iff_ne.mpr c8;have c8b2:(l1.length==l0_0.length)=false:=by first|simpa using c8|(simp at c8 ⊢;omega)
    obtain rfl:=Option.some.inj H;go_enter Try.func69,Try.ntmps69;go_wp2_with (first|((with_reducible refine Qbb (N:=3) rfl ?_);(try (refine Qdr (by rfl) ?_;dsimp only));refine Qbg ?hg (N:=3) ?hd (cs:= #[.slice A0_0 l0_0.length c0_0]) (t:=26) ?hr ?_;(case hd=>rfl);(case hg=>rfl);(case hr=>first|(go_simp;done)|(go_simp;rfl));intro gb434 hg w15 hbox hb;have BK434:=Aside0.mk (hbox);have GW434:=Aside0.mk ((by rw [hg];exact (Qq (by repeat (first|(with_reducible first|exact HB.out|apply Qc|apply Qa|apply Qd)|exact HB.out))):w.heap.size≤gb434));have GE434:=GW434;replace HB:=Aside0.mk (Qj (by repeat (first|(with_reducible first|exact HB.out|apply Qc|apply Qa|apply Qd)|exact HB.out)) hb);clear hb hbox hg;have hcz16_0:w15.cell? ⟨gb434,0,none⟩=some (.slice A0_0 l0_0.length c0_0):=(Qx BK434.out 0).trans rfl;have hfz16_0:=Qp BK434.out 0)|((with_reducible refine Qk (f:=88) rfl ?_);refine Q6 (some 8) rfl rfl Try.func88 (by kernel_rfl) rfl #[.agg #[.slice A0_0 l0_0.length c0_0]] rfl (by (try simp only [List.map_toArray,List.map_cons,List.map_nil]);first|done|rfl|(simp only [List.length_drop,List.length_take];rfl)) ?_;(with_reducible refine (Qbx.calls k _ _ l0_0 true _ ?side1 ?side2 A4.out).mono ?_);(case side1=>repeat (first|exact (Kd.C_below HR0_0.out HB.out)|(with_reducible refine Kd.C_alloc ?_ _)|(with_reducible refine Kd.C_drewN ?_ _)|(with_reducible refine Kd.C_drew ?_)));(case side2=>exact HC0_0.out);rintro e w17 ⟨rfl,hb⟩;refine ⟨_,rfl,?_⟩;replace BK434:=Aside0.mk (Qu (g:=gb434) (o:= .cells #[.slice A0_0 l0_0.length c0_0] 26 (0,0)) (by (with_reducible repeat (first|refine Qg ?_ _|refine Qh ?_|refine Qf ?_ _));exact BK434.out) hb);replace HB:=Aside0.mk (Qj (by repeat (first|(with_reducible first|exact HB.out|apply Qc|apply Qa|apply Qd|refine Qe ?_ GE434.out)|exact HB.out)) hb);(try clear hb);(try clear hb2);(try clear hk);(try clear hi))|(go_at_call 89;(with_reducible refine (Qdd.calls a2 true _ A6.out).mono ?_);rintro e w' ⟨rfl,⟨nd,rfl⟩⟩;have hcz18_0:w17.cell? ⟨gb434,0,none⟩=some (.slice A0_0 l0_0.length c0_0):=(Qx BK434.out 0).trans rfl;have hfz18_0:=Qp BK434.out 0))
    go_ret
    exact ⟨by first|rfl|(simp [Qm,Ql] <;>rfl)|(simp [*,Qm,Ql] <;>rfl),by repeat (first|(with_reducible first|exact HB.out|apply Qc|apply Qa|apply Qd|refine Qe ?_ GE434.out)|exact HB.out)⟩
  ·
   replace c7:=Bool.eq_false_iff.mpr c7;subst c7;have H1:(some false)=some r:=by rw [if_neg (show ¬ (false=true) by decide)] at H;exact H
   clear H;have H:=H1;clear H1;obtain rfl:=Option.some.inj H;go_enter Try.func69,Try.ntmps69;go_wp2_with (first|((with_reducible refine Qbb (N:=3) rfl ?_);(try (refine Qdr (by rfl) ?_;dsimp only));refine Qbg ?hg (N:=3) ?hd (cs:= #[.slice A0_0 l0_0.length c0_0]) (t:=26) ?hr ?_;(case hd=>rfl);(case hg=>rfl);(case hr=>first|(go_simp;done)|(go_simp;rfl));intro gb434 hg w19 hbox hb;have BK434:=Aside0.mk (hbox);have GW434:=Aside0.mk ((by rw [hg];exact (Qq (by repeat (first|(with_reducible first|exact HB.out|apply Qc|apply Qa|apply Qd)|exact HB.out))):w.heap.size≤gb434));have GE434:=GW434;replace HB:=Aside0.mk (Qj (by repeat (first|(with_reducible first|exact HB.out|apply Qc|apply Qa|apply Qd)|exact HB.out)) hb);clear hb hbox hg;have hcz20_0:w19.cell? ⟨gb434,0,none⟩=some (.slice A0_0 l0_0.length c0_0):=(Qx BK434.out 0).trans rfl;have hfz20_0:=Qp BK434.out 0)|((with_reducible refine Qk (f:=88) rfl ?_);refine Q6 (some 8) rfl rfl Try.func88 (by kernel_rfl) rfl #[.agg #[.slice A0_0 l0_0.length c0_0]] rfl (by (try simp only [List.map_toArray,List.map_cons,List.map_nil]);first|done|rfl|(simp only [List.length_drop,List.length_take];rfl)) ?_;(with_reducible refine (Qbx.calls k _ _ l0_0 true _ ?side1 ?side2 A4.out).mono ?_);(case side1=>repeat (first|exact (Kd.C_below HR0_0.out HB.out)|(with_reducible refine Kd.C_alloc ?_ _)|(with_reducible refine Kd.C_drewN ?_ _)|(with_reducible refine Kd.C_drew ?_)));(case side2=>exact HC0_0.out);rintro e w21 ⟨rfl,hb⟩;refine ⟨_,rfl,?_⟩;replace BK434:=Aside0.mk (Qu (g:=gb434) (o:= .cells #[.slice A0_0 l0_0.length c0_0] 26 (0,0)) (by (with_reducible repeat (first|refine Qg ?_ _|refine Qh ?_|refine Qf ?_ _));exact BK434.out) hb);replace HB:=Aside0.mk (Qj (by repeat (first|(with_reducible first|exact HB.out|apply Qc|apply Qa|apply Qd|refine Qe ?_ GE434.out)|exact HB.out)) hb);(try clear hb);(try clear hb2);(try clear hk);(try clear hi))|(go_at_call 89;(with_reducible refine (Qdd.calls a2 false _ A6.out).mono ?_);rintro e w' ⟨rfl,⟨nd,rfl⟩⟩))
   go_ret
   exact ⟨by first|rfl|(simp [Qm,Ql] <;>rfl)|(simp [*,Qm,Ql] <;>rfl),by repeat (first|(with_reducible first|exact HB.out|apply Qc|apply Qa|apply Qd|refine Qe ?_ GE434.out)|exact HB.out)⟩
 ·
  replace c5:=Bool.eq_false_iff.mpr c5;subst c5;have H1:(some false)=some r:=by rw [if_neg (show ¬ (false=true) by decide)] at H;exact H
  clear H;have H:=H1;clear H1;obtain rfl:=Option.some.inj H;go_enter Try.func69,Try.ntmps69;go_wp2_with (first|((with_reducible refine Qbb (N:=3) rfl ?_);(try (refine Qdr (by rfl) ?_;dsimp only));refine Qbg ?hg (N:=3) ?hd (cs:= #[.slice A0_0 l0_0.length c0_0]) (t:=26) ?hr ?_;(case hd=>rfl);(case hg=>rfl);(case hr=>first|(go_simp;done)|(go_simp;rfl));intro gb434 hg w22 hbox hb;have BK434:=Aside0.mk (hbox);have GW434:=Aside0.mk ((by rw [hg];exact (Qq (by repeat (first|(with_reducible first|exact HB.out|apply Qc|apply Qa|apply Qd)|exact HB.out))):w.heap.size≤gb434));have GE434:=GW434;replace HB:=Aside0.mk (Qj (by repeat (first|(with_reducible first|exact HB.out|apply Qc|apply Qa|apply Qd)|exact HB.out)) hb);clear hb hbox hg;have hcz23_0:w22.cell? ⟨gb434,0,none⟩=some (.slice A0_0 l0_0.length c0_0):=(Qx BK434.out 0).trans rfl;have hfz23_0:=Qp BK434.out 0)|((with_reducible refine Qk (f:=88) rfl ?_);refine Q6 (some 8) rfl rfl Try.func88 (by kernel_rfl) rfl #[.agg #[.slice A0_0 l0_0.length c0_0]] rfl (by (try simp only [List.map_toArray,List.map_cons,List.map_nil]);first|done|rfl|(simp only [List.length_drop,List.length_take];rfl)) ?_;(with_reducible refine (Qbx.calls k _ _ l0_0 false _ ?side1 ?side2 A4.out).mono ?_);(case side1=>repeat (first|exact (Kd.C_below HR0_0.out HB.out)|(with_reducible refine Kd.C_alloc ?_ _)|(with_reducible refine Kd.C_drewN ?_ _)|(with_reducible refine Kd.C_drew ?_)));(case side2=>exact HC0_0.out);rintro e w24 ⟨rfl,hb⟩;refine ⟨_,rfl,?_⟩;replace BK434:=Aside0.mk (Qu (g:=gb434) (o:= .cells #[.slice A0_0 l0_0.length c0_0] 26 (0,0)) (by (with_reducible repeat (first|refine Qg ?_ _|refine Qh ?_|refine Qf ?_ _));exact BK434.out) hb);replace HB:=Aside0.mk (Qj (by repeat (first|(with_reducible first|exact HB.out|apply Qc|apply Qa|apply Qd|refine Qe ?_ GE434.out)|exact HB.out)) hb);(try clear hb);(try clear hb2);(try clear hk);(try clear hi)))
  go_ret
  exact ⟨by first|rfl|(simp [Qm,Ql] <;>rfl)|(simp [*,Qm,Ql] <;>rfl),by repeat (first|(with_reducible first|exact HB.out|apply Qc|apply Qa|apply Qd|refine Qe ?_ GE434.out)|exact HB.out)⟩
mutual
def Qbs.l0 : Nat → List Int → Int → Int → Int → Int → Int → List Int → Option (Int × Int)
 |0,_,_,_,_,_,_,_=>none
 |k+1,x1,x3,x10,x11,x16,x17,x439000=>if x17<x16 then (if 0≤x3 then (if x3<(x439000.length:Int) then ((Qcr.f (rd x439000 x3) x17).bind fun t440=>(if t440=true then (if 0≤x17 then (if x17<(x1.length:Int) then ((Qcl.f x10 (rd x1 x17)).bind fun t442=>(Qbs.j1 k x1 x3 t442 x11 x17 x16 x17 x439000)) else (none)) else (none)) else (Qbs.j1 k x1 x3 x10 x11 x17 x16 x17 x439000))) else (none)) else (none)) else (some (x10,x11))
def Qbs.j1 : Nat → List Int → Int → Int → Int → Int → Int → Int → List Int → Option (Int × Int)
 |0,_,_,_,_,_,_,_,_=>none
 |k+1,x1,x3,x10,x11,x12,x16,x17,x439000=>if 0≤x12 then (if x12<(x439000.length:Int) then ((Qcr.f (rd x439000 x12) x3).bind fun t444=>(if t444=true then (if x12<(x1.length:Int) then ((Qc0.f x11 (rd x1 x12)).bind fun t446=>(Qbs.l0 k x1 x3 x10 t446 x16 (wrap64 (x17+1)) x439000)) else (none)) else (Qbs.l0 k x1 x3 x10 x11 x16 (wrap64 (x17+1)) x439000))) else (none)) else (none)
end
def Qbs.f (k : Nat) (l0_0 : List Int) (l1 : List Int) (a2 : Int) (a3 : Int) : Option (Int × Int) := Qbs.l0 k l1 a3 0 a2 (l0_0.length : Int) 0 l0_0
theorem Qbs.mono_l : ∀ k, (∀ y0 y1 y2 y3 y4 y5 y6, LeO (Qbs.l0 k y0 y1 y2 y3 y4 y5 y6) (Qbs.l0 (k + 1) y0 y1 y2 y3 y4 y5 y6)) ∧ (∀ y0 y1 y2 y3 y4 y5 y6 y7, LeO (Qbs.j1 k y0 y1 y2 y3 y4 y5 y6 y7) (Qbs.j1 (k + 1) y0 y1 y2 y3 y4 y5 y6 y7))
 |0=>⟨fun _ _ _ _ _ _ _ r h=>by simp [Qbs.l0] at h,fun _ _ _ _ _ _ _ _ r h=>by simp [Qbs.j1] at h⟩
 |k+1=>by
  obtain ⟨ih0,ih1⟩:=Qbs.mono_l k;refine ⟨?_,?_⟩
  ·
   intro y0 y1 y2 y3 y4 y5 y6;unfold Qbs.l0
   repeat' first
   |(with_reducible exact ih0 _ _ _ _ _ _ _)
   |(with_reducible exact ih1 _ _ _ _ _ _ _ _)
   |(with_reducible exact LeO.refl _)
   |(with_reducible exact LeO.none _)
   |(with_reducible refine LeO.ite ?_ ?_)
   |(with_reducible refine LeO.bind ?_ (fun _=> ?_))
   |exact ih0 _ _ _ _ _ _ _
   |exact ih1 _ _ _ _ _ _ _ _
   |exact LeO.none _
   |refine LeO.ite ?_ ?_
   |refine LeO.bind ?_ (fun _=> ?_)
  ·
   intro y0 y1 y2 y3 y4 y5 y6 y7;unfold Qbs.j1
   repeat' first
   |(with_reducible exact ih0 _ _ _ _ _ _ _)
   |(with_reducible exact ih1 _ _ _ _ _ _ _ _)
   |(with_reducible exact LeO.refl _)
   |(with_reducible exact LeO.none _)
   |(with_reducible refine LeO.ite ?_ ?_)
   |(with_reducible refine LeO.bind ?_ (fun _=> ?_))
   |exact ih0 _ _ _ _ _ _ _
   |exact ih1 _ _ _ _ _ _ _ _
   |exact LeO.none _
   |refine LeO.ite ?_ ?_
   |refine LeO.bind ?_ (fun _=> ?_)
theorem Qbs.mono : ∀ a0 a1 a2 a3 k, LeO (Qbs.f k a0 a1 a2 a3) (Qbs.f (k + 1) a0 a1 a2 a3) := by
 intro a0 a1 a2 a3 k;obtain ⟨ih0,ih1⟩:=Qbs.mono_l k;unfold Qbs.f
 repeat' first
  |(with_reducible exact ih0 _ _ _ _ _ _ _)
  |(with_reducible exact ih1 _ _ _ _ _ _ _ _)
  |(with_reducible exact LeO.refl _)
  |(with_reducible exact LeO.none _)
  |(with_reducible refine LeO.ite ?_ ?_)
  |(with_reducible refine LeO.bind ?_ (fun _=> ?_))
  |exact ih0 _ _ _ _ _ _ _
  |exact ih1 _ _ _ _ _ _ _ _
  |exact LeO.none _
  |refine LeO.ite ?_ ?_
  |refine LeO.bind ?_ (fun _=> ?_)
set_option maxHeartbeats 8000000 in
set_option maxRecDepth 100000 in
theorem Qbs.calls (k : Nat) (A0_0 : Option Addr) (c0_0 : Nat) (l0_0 : List Int) (A1 : Option Addr) (c1 : Nat) (l1 : List Int) (a2 : Int) (a3 : Int) (r1 : Int) (r2 : Int) (w : World) (hr0_0 : Kd.C (Kd.int .i64) w A0_0 l0_0.length l0_0) (hc0_0 : l0_0.length ≤ c0_0) (hr1 : Kd.C (Kd.int .i64) w A1 l1.length l1) (hc1 : l1.length ≤ c1) (h : Qbs.f k l0_0 l1 a2 a3 = some (r1, r2)) :
 Calls Try.prog 83 #[.agg #[.slice A0_0 l0_0.length c0_0], .slice A1 l1.length c1, .int .i64 a2, .int .i64 a3] w fun e w'=>e= .returned (.tuple #[.int .i64 r1, .int .i64 r2])∧Below w.heap.size w w':=by
 have hu26:=Try.underlying26;have HR0_0:=Aside0.mk hr0_0;have HC0_0:=Aside0.mk hc0_0;clear hr0_0 hc0_0;have HR1:=Aside0.mk hr1;have HC1:=Aside0.mk hc1;clear hr1 hc1;have HB:=Aside0.mk (Below.refl w.heap.size w);have H:(Qbs.l0 k l1 a3 0 a2 (l0_0.length:Int) 0 l0_0)=some (r1,r2):=h;clear h;have H':=Aside0.mk H;clear H;go_enter Try.func83,Try.ntmps83;go_wp2_with (first|((with_reducible refine Qbb (N:=4) rfl ?_);refine Qbg ?hg (N:=4) ?hd (cs:= #[.slice A0_0 l0_0.length c0_0]) (t:=26) ?hr ?_;(case hd=>rfl);(case hg=>rfl);(case hr=>first|(go_simp;done)|(go_simp;rfl));intro gb438 hg w5 hbox hb;have BK438:=Aside0.mk (hbox);have GW438:=Aside0.mk ((by rw [hg];exact (Qq (by repeat (first|(with_reducible first|exact HB.out|apply Qc|apply Qa|apply Qd)|exact HB.out))):w.heap.size≤gb438));have GE438:=GW438;replace HB:=Aside0.mk (Qj (by repeat (first|(with_reducible first|exact HB.out|apply Qc|apply Qa|apply Qd)|exact HB.out)) hb);clear hb hbox hg;have hcz6_0:w5.cell? ⟨gb438,0,none⟩=some (.slice A0_0 l0_0.length c0_0):=(Qx BK438.out 0).trans rfl;have hfz6_0:=Qp BK438.out 0))
 go_loopg [10,11,17] k (fun kq v10 v11 v17 w'=> ∃ (x10_1:Int) (x11_1:Int) (x17_1:Int),v10= .int .i64 x10_1∧v11= .int .i64 x11_1∧v17= .int .i64 x17_1∧Aside0 (Qbs.l0 kq l1 a3 x10_1 x11_1 (l0_0.length:Int) x17_1 l0_0=some (r1,r2))∧Aside0 (kq≤k)∧Aside0 (w'.heap[gb438]? =some (.cells #[(.slice A0_0 l0_0.length c0_0)] 26 (0,0)))∧Aside0 (Below w.heap.size w w'))
 case atStart=>exact ⟨(0),(a2),(0),(by first|rfl|(simp;done)|(simp [*];done)),(by first|rfl|(simp;done)|(simp [*];done)),(by first|rfl|(simp;done)|(simp [*];done)),H',⟨Nat.le_refl _⟩,⟨by (with_reducible repeat (first|refine Qg ?_ _|refine Qh ?_|refine Qf ?_ _));exact BK438.out⟩,⟨by repeat (first|(with_reducible first|exact HB.out|apply Qc|apply Qa|apply Qd|refine Qe ?_ GE438.out)|exact HB.out)⟩⟩
 case round=>
  clear H'
  try clear c1
  try clear p2
  try clear hcz6_0
  try clear hfz6_0
  obtain ⟨x10_1,x11_1,x17_1,rfl,rfl,rfl,HA,HK1,BK438,HB⟩:=hrel;cases gk with
  |zero=>exact absurd HA.out (by simp [Qbs.l0])
  |succ k1=>
   have H:=HA.out;clear HA;simp only [Qbs.l0] at H
   by_cases c7:x17_1<(l0_0.length:Int)
   ·
    rw [if_pos c7] at H;have c7b0:decide (x17_1<(l0_0.length:Int))=true:=decide_eq_true c7;clear c7
    by_cases c8:0≤a3
    ·
     rw [if_pos c8] at H;have c8b0:decide (0≤a3)=true:=decide_eq_true c8;clear c8
     by_cases c9:a3<(l0_0.length:Int)
     ·
      rw [if_pos c9] at H;have c9b0:decide (a3<(l0_0.length:Int))=true:=decide_eq_true c9;clear c9;replace H:=Option.bind_eq_some_iff.mp H;obtain ⟨t440,A100,H⟩:=H;replace H:(if t440=true then (if 0≤x17_1 then (if x17_1<(l1.length:Int) then ((Qcl.f x10_1 (rd l1 x17_1)).bind fun t442=>(Qbs.j1 k1 l1 a3 t442 x11_1 x17_1 (l0_0.length:Int) x17_1 l0_0)) else (none)) else (none)) else (Qbs.j1 k1 l1 a3 x10_1 x11_1 x17_1 (l0_0.length:Int) x17_1 l0_0))=some (r1,r2):=H;have A10:=Aside0.mk A100;clear A100;have HC11:=Aside0.mk H;clear H;have hcz12_0:wr.cell? ⟨gb438,0,none⟩=some (.slice A0_0 l0_0.length c0_0):=(Qx BK438.out 0).trans rfl;have hfz12_0:=Qp BK438.out 0;have p439:0≤(a3:Int):=of_decide_eq_true (by first|(with_reducible assumption)|assumption);have q439:a3<(l0_0.length:Int):=of_decide_eq_true (by first|(with_reducible assumption)|assumption);obtain ⟨ad439,e439,hx439_0⟩:=Kd.at_int HR0_0.out a3 p439 q439;cases e439;replace hx439_0:=(HB.out.cell (World.block_lt_of_cell? w _ hx439_0)).trans hx439_0;replace p439:=eq_true p439;replace q439:=eq_true q439
      go_upto_if 26 with (first|((with_reducible refine Qk (f:=59) rfl ?_);refine Q6 (some 26) rfl rfl Try.func59 (by kernel_rfl) rfl #[.int .i64 (rd l0_0 a3), .int .i64 x17_1] rfl (by (try simp only [List.map_toArray,List.map_cons,List.map_nil]);first|done|rfl|(simp only [List.length_drop,List.length_take];rfl)) ?_;(with_reducible refine (Qcr.calls (rd l0_0 a3) x17_1 t440 _ A10.out).mono ?_);rintro e w' ⟨rfl,⟨nd,rfl⟩⟩;refine ⟨_,rfl,?_⟩))
      (try simp only [Act.put,List.setIfInBounds_toArray,List.set_cons_zero,List.set_cons_succ])
      go_cut [10] (fun v10 wc=> ∃ (kq:Nat) (x10_10:Int),v10= .int .i64 x10_10∧Aside0 (Qbs.j1 kq l1 a3 x10_10 x11_1 x17_1 (l0_0.length:Int) x17_1 l0_0=some (r1,r2))∧Aside0 (kq≤k1)∧Aside0 (wc.heap[gb438]? =some (.cells #[(.slice (some ad439) l0_0.length c0_0)] 26 (0,0)))∧Aside0 (Below w.heap.size w wc))
      case first=>
       have H:=HC11.out;clear HC11
       by_cases c13:t440=true
       ·
        subst c13;have H1:(if 0≤x17_1 then (if x17_1<(l1.length:Int) then ((Qcl.f x10_1 (rd l1 x17_1)).bind fun t442=>(Qbs.j1 k1 l1 a3 t442 x11_1 x17_1 (l0_0.length:Int) x17_1 l0_0)) else (none)) else (none))=some (r1,r2):=by rw [if_pos rfl] at H;exact H
        clear H;have H:=H1;clear H1
        by_cases c14:0≤x17_1
        ·
         rw [if_pos c14] at H;have c14b0:decide (0≤x17_1)=true:=decide_eq_true c14;clear c14
         (first|rw [c14b0] |(simp only [Qcb,Qcj];rw [c14b0])|skip)
         by_cases c15:x17_1<(l1.length:Int)
         ·
          rw [if_pos c15] at H;have c15b0:decide (x17_1<(l1.length:Int))=true:=decide_eq_true c15;clear c15;replace H:=Option.bind_eq_some_iff.mp H;obtain ⟨t442,A160,H⟩:=H;replace H:(Qbs.j1 k1 l1 a3 t442 x11_1 x17_1 (l0_0.length:Int) x17_1 l0_0)=some (r1,r2):=H;have A16:=Aside0.mk A160;clear A160;have H':=Aside0.mk H;clear H;have p441:0≤(x17_1:Int):=of_decide_eq_true (by first|(with_reducible assumption)|assumption);have q441:x17_1<(l1.length:Int):=of_decide_eq_true (by first|(with_reducible assumption)|assumption);obtain ⟨ad441,e441,hx441_0⟩:=Kd.at_int HR1.out x17_1 p441 q441;cases e441;replace hx441_0:=(HB.out.cell (World.block_lt_of_cell? w _ hx441_0)).trans hx441_0;replace p441:=eq_true p441;replace q441:=eq_true q441;go_wp2_with (first|((with_reducible refine Qk (f:=60) rfl ?_);refine Q6 (some 32) rfl rfl Try.func60 (by kernel_rfl) rfl #[.int .i64 x10_1, .int .i64 (rd l1 x17_1)] rfl (by (try simp only [List.map_toArray,List.map_cons,List.map_nil]);first|done|rfl|(simp only [List.length_drop,List.length_take];rfl)) ?_;(with_reducible refine (Qcl.calls x10_1 (rd l1 x17_1) t442 _ A16.out).mono ?_);rintro e w' ⟨rfl,⟨nd,rfl⟩⟩;refine ⟨_,rfl,?_⟩))
          go_meet
          case rel=>exact ⟨_,(t442),(by first|rfl|(simp;done)|(simp [*];done)),H',⟨by have:=HK1.out;first|omega|exact Nat.le_refl _⟩,⟨by (with_reducible repeat (first|refine Qg ?_ _|refine Qh ?_|refine Qf ?_ _));exact BK438.out⟩,⟨by repeat (first|(with_reducible first|exact HB.out|apply Qc|apply Qa|apply Qd|refine Qe ?_ GE438.out)|exact HB.out)⟩⟩
         ·
          rw [if_neg c15] at H;exact absurd H (by simp)
        ·
         rw [if_neg c14] at H;exact absurd H (by simp)
       ·
        replace c13:=Bool.eq_false_iff.mpr c13;subst c13;have H1:(Qbs.j1 k1 l1 a3 x10_1 x11_1 x17_1 (l0_0.length:Int) x17_1 l0_0)=some (r1,r2):=by rw [if_neg (show ¬ (false=true) by decide)] at H;exact H
        clear H;have H:=H1;clear H1;have H':=Aside0.mk H;clear H;go_wp2
        go_meet
        case rel=>exact ⟨_,(x10_1),(by first|rfl|(simp;done)|(simp [*];done)),H',⟨by have:=HK1.out;first|omega|exact Nat.le_refl _⟩,⟨by (with_reducible repeat (first|refine Qg ?_ _|refine Qh ?_|refine Qf ?_ _));exact BK438.out⟩,⟨by repeat (first|(with_reducible first|exact HB.out|apply Qc|apply Qa|apply Qd|refine Qe ?_ GE438.out)|exact HB.out)⟩⟩
      case rest=>
       clear HC11
       try clear c1
       try clear p2
       try clear p4
       try clear q4
       try clear hx4
       try clear c5
       try clear c6
       try clear c7
       try clear c7b0
       try clear c8
       try clear c8b0
       try clear c9
       try clear c9b0
       try clear c13
       try clear c14
       try clear c14b0
       try clear c15
       try clear c15b0
       try clear hcz12_0
       try clear hcz6_0
       try clear hfz12_0
       try clear hfz6_0
       try clear hx439_0
       try clear hx441_0
       try clear p2
       try clear p439
       try clear p441
       try clear q439
       try clear q441
       obtain ⟨kq,x10_10,rfl,HA,HJ10,BK438,HB⟩:=hcut;cases kq with
       |zero=>exact absurd HA.out (by simp [Qbs.j1])
       |succ kj10=>
        have H:=HA.out;clear HA;simp only [Qbs.j1] at H
        by_cases c17:0≤x17_1
        ·
         rw [if_pos c17] at H;have c17b0:decide (0≤x17_1)=true:=decide_eq_true c17;clear c17
         by_cases c18:x17_1<(l0_0.length:Int)
         ·
          rw [if_pos c18] at H;have c18b0:decide (x17_1<(l0_0.length:Int))=true:=decide_eq_true c18;clear c18;replace H:=Option.bind_eq_some_iff.mp H;obtain ⟨t444,A190,H⟩:=H;replace H:(if t444=true then (if x17_1<(l1.length:Int) then ((Qc0.f x11_1 (rd l1 x17_1)).bind fun t446=>(Qbs.l0 kj10 l1 a3 x10_10 t446 (l0_0.length:Int) (wrap64 (x17_1+1)) l0_0)) else (none)) else (Qbs.l0 kj10 l1 a3 x10_10 x11_1 (l0_0.length:Int) (wrap64 (x17_1+1)) l0_0))=some (r1,r2):=H;have A19:=Aside0.mk A190;clear A190
          by_cases c20:t444=true
          ·
           subst c20;have H1:(if x17_1<(l1.length:Int) then ((Qc0.f x11_1 (rd l1 x17_1)).bind fun t446=>(Qbs.l0 kj10 l1 a3 x10_10 t446 (l0_0.length:Int) (wrap64 (x17_1+1)) l0_0)) else (none))=some (r1,r2):=by rw [if_pos rfl] at H;exact H
           clear H;have H:=H1;clear H1
           by_cases c21:x17_1<(l1.length:Int)
           ·
            rw [if_pos c21] at H;have c21b0:decide (x17_1<(l1.length:Int))=true:=decide_eq_true c21;clear c21;replace H:=Option.bind_eq_some_iff.mp H;obtain ⟨t446,A220,H⟩:=H;replace H:(Qbs.l0 kj10 l1 a3 x10_10 t446 (l0_0.length:Int) (wrap64 (x17_1+1)) l0_0)=some (r1,r2):=H;have A22:=Aside0.mk A220;clear A220;have H':=Aside0.mk H;clear H;have hcz23_0:wc.cell? ⟨gb438,0,none⟩=some (.slice (some ad439) l0_0.length c0_0):=(Qx BK438.out 0).trans rfl;have hfz23_0:=Qp BK438.out 0;have p443:0≤(x17_1:Int):=of_decide_eq_true (by first|(with_reducible assumption)|assumption);have q443:x17_1<(l0_0.length:Int):=of_decide_eq_true (by first|(with_reducible assumption)|assumption);obtain ⟨ad443,e443,hx443_0⟩:=Kd.at_int HR0_0.out x17_1 p443 q443;obtain rfl:ad439=ad443:=(by injection e443)
            replace hx443_0:=(HB.out.cell (World.block_lt_of_cell? w _ hx443_0)).trans hx443_0;replace p443:=eq_true p443;replace q443:=eq_true q443;go_wp2_with (first|((with_reducible refine Qk (f:=59) rfl ?_);refine Q6 (some 39) rfl rfl Try.func59 (by kernel_rfl) rfl #[.int .i64 (rd l0_0 x17_1), .int .i64 a3] rfl (by (try simp only [List.map_toArray,List.map_cons,List.map_nil]);first|done|rfl|(simp only [List.length_drop,List.length_take];rfl)) ?_;(with_reducible refine (Qcr.calls (rd l0_0 x17_1) a3 true _ A19.out).mono ?_);rintro e w' ⟨rfl,⟨nd,rfl⟩⟩;refine ⟨_,rfl,?_⟩;have p445:0≤(x17_1:Int):=of_decide_eq_true (by first|(with_reducible assumption)|assumption);have q445:x17_1<(l1.length:Int):=of_decide_eq_true (by first|(with_reducible assumption)|assumption);obtain ⟨ad445,e445,hx445_0⟩:=Kd.at_int HR1.out x17_1 p445 q445;cases e445;replace hx445_0:=(HB.out.cell (World.block_lt_of_cell? w _ hx445_0)).trans hx445_0;replace p445:=eq_true p445;replace q445:=eq_true q445)|((with_reducible refine Qk (f:=115) rfl ?_);refine Q6 (some 45) rfl rfl Try.func115 (by kernel_rfl) rfl #[.int .i64 x11_1, .int .i64 (rd l1 x17_1)] rfl (by (try simp only [List.map_toArray,List.map_cons,List.map_nil]);first|done|rfl|(simp only [List.length_drop,List.length_take];rfl)) ?_;(with_reducible refine (Qc0.calls x11_1 (rd l1 x17_1) t446 _ A22.out).mono ?_);rintro e w' ⟨rfl,⟨nd,rfl⟩⟩;refine ⟨_,rfl,?_⟩));go_roundg kj10
            case measure=>have:=HK1.out;have:=HJ10.out;omega
            case rel=>exact ⟨(x10_10),(t446),(wrap64 (x17_1+1)),(by first|rfl|(simp;done)|(simp [*];done)),(by first|rfl|(simp;done)|(simp [*];done)),(by first|rfl|(simp;done)|(simp [*];done)),H',⟨by have:=HK1.out;have:=HJ10.out;omega⟩,⟨by (with_reducible repeat (first|refine Qg ?_ _|refine Qh ?_|refine Qf ?_ _));exact BK438.out⟩,⟨by repeat (first|(with_reducible first|exact HB.out|apply Qc|apply Qa|apply Qd|refine Qe ?_ GE438.out)|exact HB.out)⟩⟩
           ·
            rw [if_neg c21] at H;exact absurd H (by simp)
          ·
           replace c20:=Bool.eq_false_iff.mpr c20;subst c20;have H1:(Qbs.l0 kj10 l1 a3 x10_10 x11_1 (l0_0.length:Int) (wrap64 (x17_1+1)) l0_0)=some (r1,r2):=by rw [if_neg (show ¬ (false=true) by decide)] at H;exact H
           clear H;have H:=H1;clear H1;have H':=Aside0.mk H;clear H;have hcz24_0:wc.cell? ⟨gb438,0,none⟩=some (.slice (some ad439) l0_0.length c0_0):=(Qx BK438.out 0).trans rfl;have hfz24_0:=Qp BK438.out 0;have p443:0≤(x17_1:Int):=of_decide_eq_true (by first|(with_reducible assumption)|assumption);have q443:x17_1<(l0_0.length:Int):=of_decide_eq_true (by first|(with_reducible assumption)|assumption);obtain ⟨ad443,e443,hx443_0⟩:=Kd.at_int HR0_0.out x17_1 p443 q443;obtain rfl:ad439=ad443:=(by injection e443)
           replace hx443_0:=(HB.out.cell (World.block_lt_of_cell? w _ hx443_0)).trans hx443_0;replace p443:=eq_true p443;replace q443:=eq_true q443;go_wp2_with (first|((with_reducible refine Qk (f:=59) rfl ?_);refine Q6 (some 39) rfl rfl Try.func59 (by kernel_rfl) rfl #[.int .i64 (rd l0_0 x17_1), .int .i64 a3] rfl (by (try simp only [List.map_toArray,List.map_cons,List.map_nil]);first|done|rfl|(simp only [List.length_drop,List.length_take];rfl)) ?_;(with_reducible refine (Qcr.calls (rd l0_0 x17_1) a3 false _ A19.out).mono ?_);rintro e w' ⟨rfl,⟨nd,rfl⟩⟩;refine ⟨_,rfl,?_⟩));go_roundg kj10
           case measure=>have:=HK1.out;have:=HJ10.out;omega
           case rel=>exact ⟨(x10_10),(x11_1),(wrap64 (x17_1+1)),(by first|rfl|(simp;done)|(simp [*];done)),(by first|rfl|(simp;done)|(simp [*];done)),(by first|rfl|(simp;done)|(simp [*];done)),H',⟨by have:=HK1.out;have:=HJ10.out;omega⟩,⟨by (with_reducible repeat (first|refine Qg ?_ _|refine Qh ?_|refine Qf ?_ _));exact BK438.out⟩,⟨by repeat (first|(with_reducible first|exact HB.out|apply Qc|apply Qa|apply Qd|refine Qe ?_ GE438.out)|exact HB.out)⟩⟩
         ·
          rw [if_neg c18] at H;exact absurd H (by simp)
        ·
         rw [if_neg c17] at H;exact absurd H (by simp)
     ·
      rw [if_neg c9] at H;exact absurd H (by simp)
    ·
     rw [if_neg c8] at H;exact absurd H (by simp)
   ·
    rw [if_neg c7] at H;have c7b0:decide (x17_1<(l0_0.length:Int))=false:=decide_eq_false c7;clear c7;simp only [Option.some.injEq,Prod.mk.injEq] at H;obtain ⟨rfl,rfl⟩:=H;go_wp2
    go_ret2
    exact ⟨by first|rfl|(simp [Qm,Ql] <;>rfl)|(simp [*,Qm,Ql] <;>rfl),by repeat (first|(with_reducible first|exact HB.out|apply Qc|apply Qa|apply Qd|refine Qe ?_ GE438.out)|exact HB.out)⟩
def Qc9.f (k : Nat) (l0_0 : List Int) (l1 : List Int) (a2 : Int) (a3 : Int) : Option (List Int) := (Qbs.f k l0_0 l1 a2 a3).bind fun bt448 => ((Qco.f l1).bind fun t450 => (if 0 ≤ a3 then (if a3 < (l1.length : Int) then (if a3 < (t450.length : Int) then (some (t450.set (a3 : Int).toNat (wrap64 ((wrap64 (bt448.1 + bt448.2)) - (rd l1 a3))))) else (none)) else (none)) else (none)))
theorem Qc9.mono : ∀ a0 a1 a2 a3 k, LeO (Qc9.f k a0 a1 a2 a3) (Qc9.f (k + 1) a0 a1 a2 a3) := by
 intro a0 a1 a2 a3 k;unfold Qc9.f
 repeat' first
  |(with_reducible exact Qbs.mono _ _ _ _ _)
  |(with_reducible exact LeO.refl _)
  |(with_reducible exact LeO.none _)
  |(with_reducible refine LeO.ite ?_ ?_)
  |(with_reducible refine LeO.bind ?_ (fun _=> ?_))
  |exact Qbs.mono _ _ _ _ _
  |exact LeO.none _
  |refine LeO.ite ?_ ?_
  |refine LeO.bind ?_ (fun _=> ?_)
set_option maxHeartbeats 8000000 in
set_option maxRecDepth 100000 in
theorem Qc9.calls (k : Nat) (A0_0 : Option Addr) (c0_0 : Nat) (l0_0 : List Int) (A1 : Option Addr) (c1 : Nat) (l1 : List Int) (a2 : Int) (a3 : Int) (r : List Int) (w : World) (hr0_0 : Kd.C (Kd.int .i64) w A0_0 l0_0.length l0_0) (hc0_0 : l0_0.length ≤ c0_0) (hr1 : Kd.C (Kd.int .i64) w A1 l1.length l1) (hc1 : l1.length ≤ c1) (h : Qc9.f k l0_0 l1 a2 a3 = some r) :
 Calls Try.prog 80 #[.agg #[.slice A0_0 l0_0.length c0_0], .slice A1 l1.length c1, .int .i64 a2, .int .i64 a3] w fun e w'=> ∃ v0_:Value,e= .returned (v0_)∧Kd.R (Kd.int .i64) 3 w' w.heap.size (fun _=>True) v0_ r∧Below w.heap.size w w':=by
 have hu26:=Try.underlying26;have HR0_0:=Aside0.mk hr0_0;have HC0_0:=Aside0.mk hc0_0;clear hr0_0 hc0_0;have HR1:=Aside0.mk hr1;have HC1:=Aside0.mk hc1;clear hr1 hc1;have HB:=Aside0.mk (Below.refl w.heap.size w);have H:((Qbs.f k l0_0 l1 a2 a3).bind fun bt448=>((Qco.f l1).bind fun t450=>(if 0≤a3 then (if a3<(l1.length:Int) then (if a3<(t450.length:Int) then (some (t450.set (a3:Int).toNat (wrap64 ((wrap64 (bt448.1+bt448.2)) - (rd l1 a3))))) else (none)) else (none)) else (none))))=some r:=h;clear h;replace H:=Option.bind_eq_some_iff.mp H;obtain ⟨⟨t448,t449⟩,A50,H⟩:=H;replace H:((Qco.f l1).bind fun t450=>(if 0≤a3 then (if a3<(l1.length:Int) then (if a3<(t450.length:Int) then (some (t450.set (a3:Int).toNat (wrap64 ((wrap64 (t448+t449)) - (rd l1 a3))))) else (none)) else (none)) else (none)))=some r:=H;have A5:=Aside0.mk A50;clear A50;replace H:=Option.bind_eq_some_iff.mp H;obtain ⟨t450,A60,H⟩:=H;replace H:(if 0≤a3 then (if a3<(l1.length:Int) then (if a3<(t450.length:Int) then (some (t450.set (a3:Int).toNat (wrap64 ((wrap64 (t448+t449)) - (rd l1 a3))))) else (none)) else (none)) else (none))=some r:=H;have A6:=Aside0.mk A60;clear A60
 by_cases c7:0≤a3
 ·
  rw [if_pos c7] at H;have c7b0:decide (0≤a3)=true:=decide_eq_true c7;clear c7
  by_cases c8:a3<(l1.length:Int)
  ·
   rw [if_pos c8] at H;have c8b0:decide (a3<(l1.length:Int))=true:=decide_eq_true c8;clear c8
   by_cases c9:a3<(t450.length:Int)
   ·
    rw [if_pos c9] at H;have c9b0:decide (a3<(t450.length:Int))=true:=decide_eq_true c9;clear c9;obtain ⟨y454,hy454⟩: ∃ y_:List Int,y_=(t450.set (a3:Int).toNat (wrap64 ((wrap64 (t448+t449)) - (rd l1 a3)))):=⟨_,rfl⟩
    replace H:(some y454)=some r:=by first|(rw [hy454];with_reducible exact H)|(have H2_:=(Option.bind_some _ _).symm.trans H;rw [hy454];with_reducible exact H2_)|(have H2_:=(Option.bind_some _ _).symm.trans H;with_reducible exact H2_)|with_reducible exact H|(rw [hy454];exact H)|exact H
    have Ny454:=Aside0.mk hy454;clear hy454;obtain rfl:=Option.some.inj H;go_enter Try.func80,Try.ntmps80;go_wp2_with (first|((with_reducible refine Qbb (N:=4) rfl ?_);refine Qbg ?hg (N:=4) ?hd (cs:= #[.slice A0_0 l0_0.length c0_0]) (t:=26) ?hr ?_;(case hd=>rfl);(case hg=>rfl);(case hr=>first|(go_simp;done)|(go_simp;rfl));intro gb447 hg w11 hbox hb;have BK447:=Aside0.mk (hbox);have GW447:=Aside0.mk ((by rw [hg];exact (Qq (by repeat (first|(with_reducible first|exact HB.out|apply Qc|apply Qa|apply Qd)|exact HB.out))):w.heap.size≤gb447));have GE447:=GW447;replace HB:=Aside0.mk (Qj (by repeat (first|(with_reducible first|exact HB.out|apply Qc|apply Qa|apply Qd)|exact HB.out)) hb);clear hb hbox hg;have hcz12_0:w11.cell? ⟨gb447,0,none⟩=some (.slice A0_0 l0_0.length c0_0):=(Qx BK447.out 0).trans rfl;have hfz12_0:=Qp BK447.out 0)|((with_reducible refine Qk (f:=83) rfl ?_);refine Q6 (some 17) rfl rfl Try.func83 (by kernel_rfl) rfl #[.agg #[.slice A0_0 l0_0.length c0_0], .slice A1 l1.length c1, .int .i64 a2, .int .i64 a3] rfl (by (try simp only [List.map_toArray,List.map_cons,List.map_nil]);first|done|rfl|(simp only [List.length_drop,List.length_take];rfl)) ?_;(with_reducible refine (Qbs.calls k _ _ l0_0 _ _ l1 a2 a3 t448 t449 _ ?side1 ?side2 ?side3 ?side4 A5.out).mono ?_);(case side1=>repeat (first|exact (Kd.C_below HR0_0.out HB.out)|(with_reducible refine Kd.C_alloc ?_ _)|(with_reducible refine Kd.C_drewN ?_ _)|(with_reducible refine Kd.C_drew ?_)));(case side2=>exact HC0_0.out);(case side3=>repeat (first|exact (Kd.C_below HR1.out HB.out)|(with_reducible refine Kd.C_alloc ?_ _)|(with_reducible refine Kd.C_drewN ?_ _)|(with_reducible refine Kd.C_drew ?_)));(case side4=>exact HC1.out);rintro e w13 ⟨rfl,hb⟩;refine ⟨_,rfl,?_⟩;replace BK447:=Aside0.mk (Qu (g:=gb447) (o:= .cells #[.slice A0_0 l0_0.length c0_0] 26 (0,0)) (by (with_reducible repeat (first|refine Qg ?_ _|refine Qh ?_|refine Qf ?_ _));exact BK447.out) hb);replace HB:=Aside0.mk (Qj (by repeat (first|(with_reducible first|exact HB.out|apply Qc|apply Qa|apply Qd|refine Qe ?_ GE447.out)|exact HB.out)) hb);(try clear hb);(try clear hb2);(try clear hk);(try clear hi))|((with_reducible refine Qk (f:=70) rfl ?_);refine Q6 (some 21) rfl rfl Try.func70 (by kernel_rfl) rfl #[.slice A1 l1.length c1] rfl (by (try simp only [List.map_toArray,List.map_cons,List.map_nil]);first|done|rfl|(simp only [List.length_drop,List.length_take];rfl)) ?_;(with_reducible refine (Qco.calls _ _ l1 t450 _ ?side1 ?side2 A6.out).mono ?_);(case side1=>repeat (first|exact (Kd.C_below HR1.out HB.out)|(with_reducible refine Kd.C_alloc ?_ _)|(with_reducible refine Kd.C_drewN ?_ _)|(with_reducible refine Kd.C_drew ?_)));(case side2=>exact HC1.out);rintro e w14 ⟨v451,rfl,ho0,hb⟩;refine ⟨_,rfl,?_⟩;have HO452:=Aside0.mk (Kd.R_lower ho0 (Qq (by repeat (first|(with_reducible first|exact HB.out|apply Qc|apply Qa|apply Qd|refine Qe ?_ GE447.out)|exact HB.out))));replace BK447:=Aside0.mk (Qu (g:=gb447) (o:= .cells #[.slice A0_0 l0_0.length c0_0] 26 (0,0)) (by (with_reducible repeat (first|refine Qg ?_ _|refine Qh ?_|refine Qf ?_ _));exact BK447.out) hb);replace HB:=Aside0.mk (Qj (by repeat (first|(with_reducible first|exact HB.out|apply Qc|apply Qa|apply Qd|refine Qe ?_ GE447.out)|exact HB.out)) hb);(try clear hb);(try clear hb2);(try clear hk);(try clear hi);(try clear ho0);have p453:0≤(a3:Int):=of_decide_eq_true (by first|(with_reducible assumption)|assumption);have q453:a3<(l1.length:Int):=of_decide_eq_true (by first|(with_reducible assumption)|assumption);obtain ⟨ad453,e453,hx453_0⟩:=Kd.at_int HR1.out a3 p453 q453;cases e453;replace hx453_0:=(HB.out.cell (World.block_lt_of_cell? w _ hx453_0)).trans hx453_0;replace p453:=eq_true p453;replace q453:=eq_true q453;have p10:0≤(a3:Int):=of_decide_eq_true (by first|(with_reducible assumption)|assumption);have q10:(a3:Int)<((t450.length:Int):Int):=of_decide_eq_true (by first|(with_reducible assumption)|assumption);obtain ⟨go10,co10,eo10,gb10,gl10,cl10,HG10⟩:=Kd.R_form HO452.out (by omega);(first|cases eo10|(injection eo10 with ea_ en_ ec_;(first|subst ea_|(injection ea_ with ea_;subst ea_));subst ec_;clear en_));have GB10:=Aside0.mk gb10;have GG10:=Aside0.mk HG10;clear gb10 gl10 HG10;obtain ⟨hx10_0,hf10_0⟩:=Kd.R_celln 0 HO452.out (a3:Int) p10 q10;replace p10:=eq_true p10;replace q10:=eq_true q10;obtain ⟨hy15_,hz15_⟩:=Kd.R_celln 0 HO452.out (a3:Int) (of_decide_eq_true (by first|(with_reducible assumption)|assumption)) (of_decide_eq_true (by first|(with_reducible assumption)|assumption));have HP15:=Kd.R_putg HO452.out (a3:Int) (wrap64 ((wrap64 (t448+t449)) - (rd l1 a3))))|((with_reducible refine Qgg (t:=3) (p:=32) rfl ?_);refine Qfu (t:=3) (p:=32) (v:= ?vo_w16) (w1:=(w14.setCell ⟨go10,(a3:Int).toNat,none⟩ (.int .i64 (wrap64 ((wrap64 (t448+t449)) - (rd l1 a3)))))) ?hg ?ho ?hn ?hr ?_;(case ho=>rfl);(case hg=>rfl);(case hn=>rfl);(case hr=>first|(go_simp;done)|(go_simp;rfl));intro w16 hw;have hg:w14.grownBy w16 (some go10):=(by rw [hw];exact HP15.2);have hp_:Kd.R (Kd.int .i64) 3 w16 w.heap.size (fun _=>True) (.slice (some ⟨go10,0,none⟩) t450.length co10) y454:=(by rw [hw,Ny454.out];exact HP15.1);clear HP15;replace BK447:=Aside0.mk (Qcx (g:=gb447) (o:= .cells #[.slice A0_0 l0_0.length c0_0] 26 (0,0)) (by (with_reducible repeat (first|refine Qg ?_ _|refine Qh ?_|refine Qf ?_ _));exact BK447.out) hg (Kd.R_ne HO452.out BK447.out (by decide)));replace HO452:=Aside0.mk (hp_);replace HB:=Aside0.mk ((by rw [hw];exact Qe (HB.out) GB10.out:Below w.heap.size w w16));clear hg hw hp_))
    go_ret
    exact ⟨_,by first|rfl|(simp [Qm,Ql] <;>rfl)|(simp [*,Qm,Ql] <;>rfl),by (with_reducible repeat (first|apply Kd.R_alloc|apply Kd.R_drewN|apply Kd.R_drew));exact HO452.out,by repeat (first|(with_reducible first|exact HB.out|apply Qc|apply Qa|apply Qd|refine Qe ?_ GE447.out)|exact HB.out)⟩
   ·
    rw [if_neg c9] at H;exact absurd H (by simp)
  ·
   rw [if_neg c8] at H;exact absurd H (by simp)
 ·
  rw [if_neg c7] at H;exact absurd H (by simp)
def Qb1.l0 : Nat → Int → List Int → Int → List Int → Option (List Int)
 |0,_,_,_,_=>none
 |k+1,x2,x7,x8,x456000=>if x8 ≥ 0 then ((Qc9.f k x456000 x7 x2 x8).bind fun t459=>(Qb1.l0 k x2 t459 (wrap64 (x8 - 1)) x456000)) else (some x7)
def Qb1.f (k : Nat) (l0_0 : List Int) (l1 : List Int) (a2 : Int) : Option (List Int) := (Qco.f l1).bind fun t456 => (Qb1.l0 k a2 t456 (wrap64 ((l0_0.length : Int) - 1)) l0_0)
theorem Qb1.mono_l : ∀ k, (∀ y0 y1 y2 y3, LeO (Qb1.l0 k y0 y1 y2 y3) (Qb1.l0 (k + 1) y0 y1 y2 y3))
 |0=>fun _ _ _ _ r h=>by simp [Qb1.l0] at h
 |k+1=>by
  have ih0:=Qb1.mono_l k
  ·
   intro y0 y1 y2 y3;unfold Qb1.l0
   repeat' first
   |(with_reducible exact ih0 _ _ _ _)
   |(with_reducible exact Qc9.mono _ _ _ _ _)
   |(with_reducible exact LeO.refl _)
   |(with_reducible exact LeO.none _)
   |(with_reducible refine LeO.ite ?_ ?_)
   |(with_reducible refine LeO.bind ?_ (fun _=> ?_))
   |exact ih0 _ _ _ _
   |exact Qc9.mono _ _ _ _ _
   |exact LeO.none _
   |refine LeO.ite ?_ ?_
   |refine LeO.bind ?_ (fun _=> ?_)
theorem Qb1.mono : ∀ a0 a1 a2 k, LeO (Qb1.f k a0 a1 a2) (Qb1.f (k + 1) a0 a1 a2) := by
 intro a0 a1 a2 k;have ih0:=Qb1.mono_l k;unfold Qb1.f
 repeat' first
  |(with_reducible exact ih0 _ _ _ _)
  |(with_reducible exact Qc9.mono _ _ _ _ _)
  |(with_reducible exact LeO.refl _)
  |(with_reducible exact LeO.none _)
  |(with_reducible refine LeO.ite ?_ ?_)
  |(with_reducible refine LeO.bind ?_ (fun _=> ?_))
  |exact ih0 _ _ _ _
  |exact Qc9.mono _ _ _ _ _
  |exact LeO.none _
  |refine LeO.ite ?_ ?_
  |refine LeO.bind ?_ (fun _=> ?_)
set_option maxHeartbeats 8000000 in
set_option maxRecDepth 100000 in
theorem Qb1.calls (k : Nat) (A0_0 : Option Addr) (c0_0 : Nat) (l0_0 : List Int) (A1 : Option Addr) (c1 : Nat) (l1 : List Int) (a2 : Int) (r : List Int) (w : World) (hr0_0 : Kd.C (Kd.int .i64) w A0_0 l0_0.length l0_0) (hc0_0 : l0_0.length ≤ c0_0) (hr1 : Kd.C (Kd.int .i64) w A1 l1.length l1) (hc1 : l1.length ≤ c1) (h : Qb1.f k l0_0 l1 a2 = some r) :
 Calls Try.prog 71 #[.agg #[.slice A0_0 l0_0.length c0_0], .slice A1 l1.length c1, .int .i64 a2] w fun e w'=> ∃ v0_:Value,e= .returned (v0_)∧Kd.R (Kd.int .i64) 3 w' w.heap.size (fun _=>True) v0_ r∧Below w.heap.size w w':=by
 have hu26:=Try.underlying26;have HR0_0:=Aside0.mk hr0_0;have HC0_0:=Aside0.mk hc0_0;clear hr0_0 hc0_0;have HR1:=Aside0.mk hr1;have HC1:=Aside0.mk hc1;clear hr1 hc1;have HB:=Aside0.mk (Below.refl w.heap.size w);have H:((Qco.f l1).bind fun t456=>(Qb1.l0 k a2 t456 (wrap64 ((l0_0.length:Int) - 1)) l0_0))=some r:=h;clear h;replace H:=Option.bind_eq_some_iff.mp H;obtain ⟨t456,A40,H⟩:=H;replace H:(Qb1.l0 k a2 t456 (wrap64 ((l0_0.length:Int) - 1)) l0_0)=some r:=H;have A4:=Aside0.mk A40;clear A40;have H':=Aside0.mk H;clear H;go_enter Try.func71,Try.ntmps71;go_wp2_with (first|((with_reducible refine Qbb (N:=3) rfl ?_);refine Qbg ?hg (N:=3) ?hd (cs:= #[.slice A0_0 l0_0.length c0_0]) (t:=26) ?hr ?_;(case hd=>rfl);(case hg=>rfl);(case hr=>first|(go_simp;done)|(go_simp;rfl));intro gb455 hg w5 hbox hb;have BK455:=Aside0.mk (hbox);have GW455:=Aside0.mk ((by rw [hg];exact (Qq (by repeat (first|(with_reducible first|exact HB.out|apply Qc|apply Qa|apply Qd)|exact HB.out))):w.heap.size≤gb455));have GE455:=GW455;replace HB:=Aside0.mk (Qj (by repeat (first|(with_reducible first|exact HB.out|apply Qc|apply Qa|apply Qd)|exact HB.out)) hb);clear hb hbox hg)|((with_reducible refine Qk (f:=70) rfl ?_);refine Q6 (some 10) rfl rfl Try.func70 (by kernel_rfl) rfl #[.slice A1 l1.length c1] rfl (by (try simp only [List.map_toArray,List.map_cons,List.map_nil]);first|done|rfl|(simp only [List.length_drop,List.length_take];rfl)) ?_;(with_reducible refine (Qco.calls _ _ l1 t456 _ ?side1 ?side2 A4.out).mono ?_);(case side1=>repeat (first|exact (Kd.C_below HR1.out HB.out)|(with_reducible refine Kd.C_alloc ?_ _)|(with_reducible refine Kd.C_drewN ?_ _)|(with_reducible refine Kd.C_drew ?_)));(case side2=>exact HC1.out);rintro e w6 ⟨v457,rfl,ho0,hb⟩;refine ⟨_,rfl,?_⟩;have HO458:=Aside0.mk (Kd.R_lower ho0 (Qq (by repeat (first|(with_reducible first|exact HB.out|apply Qc|apply Qa|apply Qd|refine Qe ?_ GE455.out)|exact HB.out))));replace BK455:=Aside0.mk (Qu (g:=gb455) (o:= .cells #[.slice A0_0 l0_0.length c0_0] 26 (0,0)) (by (with_reducible repeat (first|refine Qg ?_ _|refine Qh ?_|refine Qf ?_ _));exact BK455.out) hb);replace HB:=Aside0.mk (Qj (by repeat (first|(with_reducible first|exact HB.out|apply Qc|apply Qa|apply Qd|refine Qe ?_ GE455.out)|exact HB.out)) hb);(try clear hb);(try clear hb2);(try clear hk);(try clear hi);(try clear ho0);have hcz7_0:w6.cell? ⟨gb455,0,none⟩=some (.slice A0_0 l0_0.length c0_0):=(Qx BK455.out 0).trans rfl;have hfz7_0:=Qp BK455.out 0))
 go_loopg [7,8] k (fun kq v7 v8 w'=> ∃ (x7_1:List Int) (x8_1:Int),v8= .int .i64 x8_1∧Aside0 (Qb1.l0 kq a2 x7_1 x8_1 l0_0=some r)∧Aside0 (kq≤k)∧Aside0 (Kd.R (Kd.int .i64) 3 w' w.heap.size (fun _=>True) v7 x7_1)∧Aside0 (w'.heap[gb455]? =some (.cells #[(.slice A0_0 l0_0.length c0_0)] 26 (0,0)))∧Aside0 (Below w.heap.size w w'))
 case atStart=>exact ⟨(t456),(wrap64 ((l0_0.length:Int) - 1)),(by first|rfl|(simp;done)|(simp [*];done)),H',⟨Nat.le_refl _⟩,⟨by (with_reducible repeat (first|apply Kd.R_alloc|apply Kd.R_drewN|apply Kd.R_drew));exact HO458.out⟩,⟨by (with_reducible repeat (first|refine Qg ?_ _|refine Qh ?_|refine Qf ?_ _));exact BK455.out⟩,⟨by repeat (first|(with_reducible first|exact HB.out|apply Qc|apply Qa|apply Qd|refine Qe ?_ GE455.out)|exact HB.out)⟩⟩
 case round=>
  clear H'
  try clear c1
  try clear p2
  try clear p6
  try clear c7
  try clear hcz7_0
  try clear hfz7_0
  obtain ⟨x7_1,x8_1,rfl,HA,HK1,HO_7,BK455,HB⟩:=hrel;cases gk with
  |zero=>exact absurd HA.out (by simp [Qb1.l0])
  |succ k1=>
   have H:=HA.out;clear HA;simp only [Qb1.l0] at H
   by_cases c8:x8_1 ≥ 0
   ·
    rw [if_pos c8] at H;have c8b0:decide (0≤x8_1)=true:=decide_eq_true c8;clear c8;replace H:=Option.bind_eq_some_iff.mp H;obtain ⟨t459,A90,H⟩:=H;replace H:(Qb1.l0 k1 a2 t459 (wrap64 (x8_1 - 1)) l0_0)=some r:=H;have A9:=Aside0.mk A90;clear A90;have H':=Aside0.mk H;clear H;have hcz10_0:wr.cell? ⟨gb455,0,none⟩=some (.slice A0_0 l0_0.length c0_0):=(Qx BK455.out 0).trans rfl;have hfz10_0:=Qp BK455.out 0;obtain ⟨Ao11,co11,eo11⟩:=Kd.R_slice HO_7.out;subst eo11;go_wp2_with (first|((with_reducible refine Qk (f:=80) rfl ?_);refine Q6 (some 23) rfl rfl Try.func80 (by kernel_rfl) rfl #[.agg #[.slice A0_0 l0_0.length c0_0], .slice Ao11 x7_1.length co11, .int .i64 a2, .int .i64 x8_1] rfl (by (try simp only [List.map_toArray,List.map_cons,List.map_nil]);first|done|rfl|(simp only [List.length_drop,List.length_take];rfl)) ?_;(with_reducible refine (Qc9.calls k1 _ _ l0_0 _ _ x7_1 a2 x8_1 t459 _ ?side1 ?side2 ?side3 ?side4 A9.out).mono ?_);(case side1=>repeat (first|exact (Kd.C_below HR0_0.out HB.out)|(with_reducible refine Kd.C_alloc ?_ _)|(with_reducible refine Kd.C_drewN ?_ _)|(with_reducible refine Kd.C_drew ?_)));(case side2=>exact HC0_0.out);(case side3=>repeat (first|exact (Kd.R_reads' HO_7.out).2.2|(with_reducible refine Kd.C_alloc ?_ _)|(with_reducible refine Kd.C_drewN ?_ _)|(with_reducible refine Kd.C_drew ?_)));(case side4=>exact (Kd.R_reads' HO_7.out).2.1);rintro e w12 ⟨v460,rfl,ho0,hb⟩;refine ⟨_,rfl,?_⟩;have HO461:=Aside0.mk (Kd.R_lower (Kd.R_new' ho0 (Kd.R_lt (by (with_reducible repeat (first|apply Kd.R_alloc|apply Kd.R_drewN|apply Kd.R_drew));exact HO_7.out))) (Qq (by repeat (first|(with_reducible first|exact HB.out|apply Qc|apply Qa|apply Qd|refine Qe ?_ GE455.out)|exact HB.out))));replace HO_7:=Aside0.mk (Kd.R_elder' (by (with_reducible repeat (first|apply Kd.R_alloc|apply Kd.R_drewN|apply Kd.R_drew));exact HO_7.out) (Kd.R_base ho0) hb);replace BK455:=Aside0.mk (Qu (g:=gb455) (o:= .cells #[.slice A0_0 l0_0.length c0_0] 26 (0,0)) (by (with_reducible repeat (first|refine Qg ?_ _|refine Qh ?_|refine Qf ?_ _));exact BK455.out) hb);replace HB:=Aside0.mk (Qj (by repeat (first|(with_reducible first|exact HB.out|apply Qc|apply Qa|apply Qd|refine Qe ?_ GE455.out)|exact HB.out)) hb);(try clear hb);(try clear hb2);(try clear hk);(try clear hi);(try clear ho0)));go_roundg k1
    case measure=>have:=HK1.out;omega
    case rel=>exact ⟨(t459),(wrap64 (x8_1 - 1)),(by first|rfl|(simp;done)|(simp [*];done)),H',⟨by have:=HK1.out;omega⟩,⟨by (with_reducible repeat (first|apply Kd.R_alloc|apply Kd.R_drewN|apply Kd.R_drew));exact Kd.R_mono HO461.out (fun _ hk=>trivial)⟩,⟨by (with_reducible repeat (first|refine Qg ?_ _|refine Qh ?_|refine Qf ?_ _));exact BK455.out⟩,⟨by repeat (first|(with_reducible first|exact HB.out|apply Qc|apply Qa|apply Qd|refine Qe ?_ GE455.out)|exact HB.out)⟩⟩
   ·
    rw [if_neg c8] at H;have c8b0:decide (0≤x8_1)=false:=decide_eq_false c8;clear c8;obtain rfl:=Option.some.inj H;go_wp2
    go_ret
    exact ⟨_,by first|rfl|(simp [Qm,Ql] <;>rfl)|(simp [*,Qm,Ql] <;>rfl),by (with_reducible repeat (first|apply Kd.R_alloc|apply Kd.R_drewN|apply Kd.R_drew));exact HO_7.out,by repeat (first|(with_reducible first|exact HB.out|apply Qc|apply Qa|apply Qd|refine Qe ?_ GE455.out)|exact HB.out)⟩
def Qci.l0 : Nat → List Int → List Int → Int → Int → Option (Bool)
 |0,_,_,_,_=>none
 |k+1,x0,x1,x12,x13=>if x13<x12 then (if 0≤x13 then (if x13<(x0.length:Int) then (if x13<(x1.length:Int) then (if (rd x0 x13)=(rd x1 x13) then (Qci.l0 k x0 x1 x12 (wrap64 (x13+1))) else (some false)) else (none)) else (none)) else (none)) else (some true)
def Qci.f (k : Nat) (l0 : List Int) (l1 : List Int) : Option (Bool) := if (l0.length : Int) = (l1.length : Int) then (Qci.l0 k l0 l1 (l0.length : Int) 0) else (some false)
theorem Qci.mono_l : ∀ k, (∀ y0 y1 y2 y3, LeO (Qci.l0 k y0 y1 y2 y3) (Qci.l0 (k + 1) y0 y1 y2 y3))
 |0=>fun _ _ _ _ r h=>by simp [Qci.l0] at h
 |k+1=>by
  have ih0:=Qci.mono_l k
  ·
   intro y0 y1 y2 y3;unfold Qci.l0
   repeat' first
   |(with_reducible exact ih0 _ _ _ _)
   |(with_reducible exact LeO.refl _)
   |(with_reducible exact LeO.none _)
   |(with_reducible refine LeO.ite ?_ ?_)
   |(with_reducible refine LeO.bind ?_ (fun _=> ?_))
   |exact ih0 _ _ _ _
   |exact LeO.none _
   |refine LeO.ite ?_ ?_
   |refine LeO.bind ?_ (fun _=> ?_)
theorem Qci.mono : ∀ a0 a1 k, LeO (Qci.f k a0 a1) (Qci.f (k + 1) a0 a1) := by
 intro a0 a1 k;have ih0:=Qci.mono_l k;unfold Qci.f
 repeat' first
  |(with_reducible exact ih0 _ _ _ _)
  |(with_reducible exact LeO.refl _)
  |(with_reducible exact LeO.none _)
  |(with_reducible refine LeO.ite ?_ ?_)
  |(with_reducible refine LeO.bind ?_ (fun _=> ?_))
  |exact ih0 _ _ _ _
  |exact LeO.none _
  |refine LeO.ite ?_ ?_
  |refine LeO.bind ?_ (fun _=> ?_)
set_option maxHeartbeats 8000000 in
set_option maxRecDepth 100000 in
theorem Qci.calls (k : Nat) (A0 : Option Addr) (c0 : Nat) (l0 : List Int) (A1 : Option Addr) (c1 : Nat) (l1 : List Int) (r : Bool) (w : World) (hr0 : Kd.C (Kd.int .i64) w A0 l0.length l0) (hc0 : l0.length ≤ c0) (hr1 : Kd.C (Kd.int .i64) w A1 l1.length l1) (hc1 : l1.length ≤ c1) (h : Qci.f k l0 l1 = some r) :
 Calls Try.prog 72 #[.slice A0 l0.length c0, .slice A1 l1.length c1] w fun e w'=>e= .returned (.bool r)∧Drawn0 w w':=by
 have HR0:=Aside0.mk hr0;have HC0:=Aside0.mk hc0;clear hr0 hc0;have HR1:=Aside0.mk hr1;have HC1:=Aside0.mk hc1;clear hr1 hc1;have H:(if (l0.length:Int)=(l1.length:Int) then (Qci.l0 k l0 l1 (l0.length:Int) 0) else (some false))=some r:=h;clear h
 by_cases c3:(l0.length:Int)=(l1.length:Int)
 ·
  rw [if_pos c3] at H;have c3b0:((l0.length:Int)==(l1.length:Int))=true:=beq_iff_eq.mpr c3;have c3b1:((l0.length:Int) !=(l1.length:Int))=false:=bne_eq_false_iff_eq.mpr c3;have c3b2:(l0.length==l1.length)=true:=by first|simpa using c3|(simp at c3 ⊢;omega)
  clear c3;have H':=Aside0.mk H;clear H;go_enter Try.func72,Try.ntmps72;go_wp2
  repeat (go_quiet (fail);try go_wp2)
  go_loopg [13] k (fun kq v13 w'=> ∃ (x13_1:Int),v13= .int .i64 x13_1∧Aside0 (Qci.l0 kq l0 l1 (l0.length:Int) x13_1=some r)∧Aside0 (kq≤k)∧Drawn0 w w')
  case atStart=>exact ⟨(0),(by first|rfl|(simp;done)|(simp [*];done)),H',⟨Nat.le_refl _⟩,by repeat (first|exact Drawn0.refl _|apply Drawn0.step)⟩
  case round=>
   clear H'
   try clear c1
   try clear p2
   try clear c3
   try clear c3b0
   try clear c3b1
   try clear c3b2
   obtain ⟨x13_1,rfl,HA,HK1,⟨m1,rfl⟩⟩:=hrel;cases gk with
   |zero=>exact absurd HA.out (by simp [Qci.l0])
   |succ k1=>
    have H:=HA.out;clear HA;simp only [Qci.l0] at H
    by_cases c4:x13_1<(l0.length:Int)
    ·
     rw [if_pos c4] at H;have c4b0:decide (x13_1<(l0.length:Int))=true:=decide_eq_true c4;clear c4
     by_cases c5:0≤x13_1
     ·
      rw [if_pos c5] at H;have c5b0:decide (0≤x13_1)=true:=decide_eq_true c5;clear c5
      by_cases c6:x13_1<(l0.length:Int)
      ·
       rw [if_pos c6] at H;have c6b0:decide (x13_1<(l0.length:Int))=true:=decide_eq_true c6;clear c6
       by_cases c7:x13_1<(l1.length:Int)
       ·
        rw [if_pos c7] at H;have c7b0:decide (x13_1<(l1.length:Int))=true:=decide_eq_true c7;clear c7
        by_cases c8:(rd l0 x13_1)=(rd l1 x13_1)
        ·
         rw [if_pos c8] at H;have c8b0:((rd l0 x13_1)==(rd l1 x13_1))=true:=beq_iff_eq.mpr c8;have c8b1:((rd l0 x13_1) !=(rd l1 x13_1))=false:=bne_eq_false_iff_eq.mpr c8;clear c8;have H':=Aside0.mk H;clear H;have p462:0≤(x13_1:Int):=of_decide_eq_true (by first|(with_reducible assumption)|assumption);have q462:x13_1<(l0.length:Int):=of_decide_eq_true (by first|(with_reducible assumption)|assumption);obtain ⟨ad462,e462,hx462_0⟩:=Kd.at_int HR0.out x13_1 p462 q462;cases e462;replace p462:=eq_true p462;replace q462:=eq_true q462;have p463:0≤(x13_1:Int):=of_decide_eq_true (by first|(with_reducible assumption)|assumption);have q463:x13_1<(l1.length:Int):=of_decide_eq_true (by first|(with_reducible assumption)|assumption);obtain ⟨ad463,e463,hx463_0⟩:=Kd.at_int HR1.out x13_1 p463 q463;cases e463;replace p463:=eq_true p463;replace q463:=eq_true q463;go_wp2
         repeat (go_quiet (fail);try go_wp2)
         go_roundg k1
         case measure=>have:=HK1.out;omega
         case rel=>exact ⟨(wrap64 (x13_1+1)),(by first|rfl|(simp;done)|(simp [*];done)),H',⟨by have:=HK1.out;omega⟩,by repeat (first|exact Drawn0.refl _|apply Drawn0.step)⟩
        ·
         rw [if_neg c8] at H;have c8b0:((rd l0 x13_1)==(rd l1 x13_1))=false:=beq_eq_false_iff_ne.mpr c8;have c8b1:((rd l0 x13_1) !=(rd l1 x13_1))=true:=bne_iff_ne.mpr c8;obtain rfl:=Option.some.inj H;have p462:0≤(x13_1:Int):=of_decide_eq_true (by first|(with_reducible assumption)|assumption);have q462:x13_1<(l0.length:Int):=of_decide_eq_true (by first|(with_reducible assumption)|assumption);obtain ⟨ad462,e462,hx462_0⟩:=Kd.at_int HR0.out x13_1 p462 q462;cases e462;replace p462:=eq_true p462;replace q462:=eq_true q462;have p463:0≤(x13_1:Int):=of_decide_eq_true (by first|(with_reducible assumption)|assumption);have q463:x13_1<(l1.length:Int):=of_decide_eq_true (by first|(with_reducible assumption)|assumption);obtain ⟨ad463,e463,hx463_0⟩:=Kd.at_int HR1.out x13_1 p463 q463;cases e463;replace p463:=eq_true p463;replace q463:=eq_true q463;go_wp2
         repeat (go_quiet (fail);try go_wp2)
         go_ret
         exact ⟨by first|rfl|(simp;done)|(simp [*];done),by repeat (first|exact Drawn0.refl _|apply Drawn0.step)⟩
       ·
        rw [if_neg c7] at H;exact absurd H (by simp)
      ·
       rw [if_neg c6] at H;exact absurd H (by simp)
     ·
      rw [if_neg c5] at H;exact absurd H (by simp)
    ·
     rw [if_neg c4] at H;have c4b0:decide (x13_1<(l0.length:Int))=false:=decide_eq_false c4;clear c4;obtain rfl:=Option.some.inj H;go_wp2
     repeat (go_quiet (fail);try go_wp2)
     go_ret
     exact ⟨by first|rfl|(simp;done)|(simp [*];done),by repeat (first|exact Drawn0.refl _|apply Drawn0.step)⟩
 ·
  rw [if_neg c3] at H;have c3b0:((l0.length:Int)==(l1.length:Int))=false:=beq_eq_false_iff_ne.mpr c3;have c3b1:((l0.length:Int) !=(l1.length:Int))=true:=bne_iff_ne.mpr c3;have c3b2:(l0.length==l1.length)=false:=by first|simpa using c3|(simp at c3 ⊢;omega)
  obtain rfl:=Option.some.inj H;go_enter Try.func72,Try.ntmps72;go_wp2
  repeat (go_quiet (fail);try go_wp2)
  go_ret
  exact ⟨by first|rfl|(simp;done)|(simp [*];done),by repeat (first|exact Drawn0.refl _|apply Drawn0.step)⟩
def Qbe.l0 : Nat → List Int → Int → List (List Int) → List Int → List Int → Option ((List (List Int)) × Bool)
 |0,_,_,_,_,_=>none
 |k+1,x1,x2,x8,x9,x465000=>(Qci.f k x9 x1).bind fun t475=>(if t475=true then (some (x8,true)) else (if (x8.length:Int)=1000 then (some (([] :List (List Int)),false)) else (if x8.length<5864062014805 then ((Qb1.f k x465000 x9 x2).bind fun t479=>(Qbe.l0 k x1 x2 (x8++ [x9]) t479 x465000)) else (none))))
def Qbe.f (k : Nat) (l0_0 : List Int) (l1 : List Int) (a2 : Int) : Option ((List (List Int)) × Bool) := (Qcm.f k l0_0 l1 a2).bind fun t465 => (if t465 = true then ((Qco.f l1).bind fun t466 => ((Qb1.f k l0_0 l1 a2).bind fun t472 => (Qbe.l0 k l1 a2 (([t466] : List (List Int))) t472 l0_0))) else (some (([] : List (List Int)), false)))
theorem Qbe.mono_l : ∀ k, (∀ y0 y1 y2 y3 y4, LeO (Qbe.l0 k y0 y1 y2 y3 y4) (Qbe.l0 (k + 1) y0 y1 y2 y3 y4))
 |0=>fun _ _ _ _ _ r h=>by simp [Qbe.l0] at h
 |k+1=>by
  have ih0:=Qbe.mono_l k
  ·
   intro y0 y1 y2 y3 y4;unfold Qbe.l0
   repeat' first
   |(with_reducible exact ih0 _ _ _ _ _)
   |(with_reducible exact Qci.mono _ _ _)
   |(with_reducible exact Qcm.mono _ _ _ _)
   |(with_reducible exact Qb1.mono _ _ _ _)
   |(with_reducible exact LeO.refl _)
   |(with_reducible exact LeO.none _)
   |(with_reducible refine LeO.ite ?_ ?_)
   |(with_reducible refine LeO.bind ?_ (fun _=> ?_))
   |exact ih0 _ _ _ _ _
   |exact Qci.mono _ _ _
   |exact Qcm.mono _ _ _ _
   |exact Qb1.mono _ _ _ _
   |exact LeO.none _
   |refine LeO.ite ?_ ?_
   |refine LeO.bind ?_ (fun _=> ?_)
theorem Qbe.mono : ∀ a0 a1 a2 k, LeO (Qbe.f k a0 a1 a2) (Qbe.f (k + 1) a0 a1 a2) := by
 intro a0 a1 a2 k;have ih0:=Qbe.mono_l k;unfold Qbe.f
 repeat' first
  |(with_reducible exact ih0 _ _ _ _ _)
  |(with_reducible exact Qci.mono _ _ _)
  |(with_reducible exact Qcm.mono _ _ _ _)
  |(with_reducible exact Qb1.mono _ _ _ _)
  |(with_reducible exact LeO.refl _)
  |(with_reducible exact LeO.none _)
  |(with_reducible refine LeO.ite ?_ ?_)
  |(with_reducible refine LeO.bind ?_ (fun _=> ?_))
  |exact ih0 _ _ _ _ _
  |exact Qci.mono _ _ _
  |exact Qcm.mono _ _ _ _
  |exact Qb1.mono _ _ _ _
  |exact LeO.none _
  |refine LeO.ite ?_ ?_
  |refine LeO.bind ?_ (fun _=> ?_)
set_option maxHeartbeats 8000000 in
set_option maxRecDepth 100000 in
theorem Qbe.calls (k : Nat) (A0_0 : Option Addr) (c0_0 : Nat) (l0_0 : List Int) (A1 : Option Addr) (c1 : Nat) (l1 : List Int) (a2 : Int) (r1 : List (List Int)) (r2 : Bool) (w : World) (hr0_0 : Kd.C (Kd.int .i64) w A0_0 l0_0.length l0_0) (hc0_0 : l0_0.length ≤ c0_0) (hr1 : Kd.C (Kd.int .i64) w A1 l1.length l1) (hc1 : l1.length ≤ c1) (h : Qbe.f k l0_0 l1 a2 = some (r1, r2)) :
 Calls Try.prog 9 #[.agg #[.slice A0_0 l0_0.length c0_0], .slice A1 l1.length c1, .int .i64 a2] w fun e w'=> ∃ v0_:Value,e= .returned (.tuple #[v0_, .bool r2])∧Kd.N (Kd.slice 3 (Kd.int .i64)) 24 w' w.heap.size (fun k_=>(w.heap.size≤k_)) v0_ r1∧Below w.heap.size w w':=by
 have hu26:=Try.underlying26;have HR0_0:=Aside0.mk hr0_0;have HC0_0:=Aside0.mk hc0_0;clear hr0_0 hc0_0;have HR1:=Aside0.mk hr1;have HC1:=Aside0.mk hc1;clear hr1 hc1;have HB:=Aside0.mk (Below.refl w.heap.size w);have H:((Qcm.f k l0_0 l1 a2).bind fun t465=>(if t465=true then ((Qco.f l1).bind fun t466=>((Qb1.f k l0_0 l1 a2).bind fun t472=>(Qbe.l0 k l1 a2 (([t466] :List (List Int))) t472 l0_0))) else (some (([] :List (List Int)),false))))=some (r1,r2):=h;clear h;replace H:=Option.bind_eq_some_iff.mp H;obtain ⟨t465,A40,H⟩:=H;replace H:(if t465=true then ((Qco.f l1).bind fun t466=>((Qb1.f k l0_0 l1 a2).bind fun t472=>(Qbe.l0 k l1 a2 (([t466] :List (List Int))) t472 l0_0))) else (some (([] :List (List Int)),false)))=some (r1,r2):=H;have A4:=Aside0.mk A40;clear A40
 by_cases c5:t465=true
 ·
  subst c5;have H1:((Qco.f l1).bind fun t466=>((Qb1.f k l0_0 l1 a2).bind fun t472=>(Qbe.l0 k l1 a2 (([t466] :List (List Int))) t472 l0_0)))=some (r1,r2):=by rw [if_pos rfl] at H;exact H
  clear H;have H:=H1;clear H1;replace H:=Option.bind_eq_some_iff.mp H;obtain ⟨t466,A60,H⟩:=H;replace H:((Qb1.f k l0_0 l1 a2).bind fun t472=>(Qbe.l0 k l1 a2 (([t466] :List (List Int))) t472 l0_0))=some (r1,r2):=H;have A6:=Aside0.mk A60;clear A60;obtain ⟨y469,hy469⟩: ∃ y_:List (List Int),y_=(([t466] :List (List Int))):=⟨_,rfl⟩
  replace H:((Qb1.f k l0_0 l1 a2).bind fun t472=>(Qbe.l0 k l1 a2 y469 t472 l0_0))=some (r1,r2):=by first|(rw [hy469];with_reducible exact H)|(have H2_:=(Option.bind_some _ _).symm.trans H;rw [hy469];with_reducible exact H2_)|(have H2_:=(Option.bind_some _ _).symm.trans H;with_reducible exact H2_)|with_reducible exact H|(rw [hy469];exact H)|exact H
  have Ny469:=Aside0.mk hy469;clear hy469;replace H:=Option.bind_eq_some_iff.mp H;obtain ⟨t472,A70,H⟩:=H;replace H:(Qbe.l0 k l1 a2 y469 t472 l0_0)=some (r1,r2):=H;have A7:=Aside0.mk A70;clear A70;have H':=Aside0.mk H;clear H;go_enter Try.func9,Try.ntmps9;go_wp2_with (first|((with_reducible refine Qbb (N:=3) rfl ?_);refine Qbg ?hg (N:=3) ?hd (cs:= #[.slice A0_0 l0_0.length c0_0]) (t:=26) ?hr ?_;(case hd=>rfl);(case hg=>rfl);(case hr=>first|(go_simp;done)|(go_simp;rfl));intro gb464 hg w8 hbox hb;have BK464:=Aside0.mk (hbox);have GW464:=Aside0.mk ((by rw [hg];exact (Qq (by repeat (first|(with_reducible first|exact HB.out|apply Qc|apply Qa|apply Qd)|exact HB.out))):w.heap.size≤gb464));have GE464:=GW464;replace HB:=Aside0.mk (Qj (by repeat (first|(with_reducible first|exact HB.out|apply Qc|apply Qa|apply Qd)|exact HB.out)) hb);clear hb hbox hg;have hcz9_0:w8.cell? ⟨gb464,0,none⟩=some (.slice A0_0 l0_0.length c0_0):=(Qx BK464.out 0).trans rfl;have hfz9_0:=Qp BK464.out 0)|((with_reducible refine Qk (f:=69) rfl ?_);refine Q6 (some 13) rfl rfl Try.func69 (by kernel_rfl) rfl #[.agg #[.slice A0_0 l0_0.length c0_0], .slice A1 l1.length c1, .int .i64 a2] rfl (by (try simp only [List.map_toArray,List.map_cons,List.map_nil]);first|done|rfl|(simp only [List.length_drop,List.length_take];rfl)) ?_;(with_reducible refine (Qcm.calls k _ _ l0_0 _ _ l1 a2 true _ ?side1 ?side2 ?side3 ?side4 A4.out).mono ?_);(case side1=>repeat (first|exact (Kd.C_below HR0_0.out HB.out)|(with_reducible refine Kd.C_alloc ?_ _)|(with_reducible refine Kd.C_drewN ?_ _)|(with_reducible refine Kd.C_drew ?_)));(case side2=>exact HC0_0.out);(case side3=>repeat (first|exact (Kd.C_below HR1.out HB.out)|(with_reducible refine Kd.C_alloc ?_ _)|(with_reducible refine Kd.C_drewN ?_ _)|(with_reducible refine Kd.C_drew ?_)));(case side4=>exact HC1.out);rintro e w10 ⟨rfl,hb⟩;refine ⟨_,rfl,?_⟩;replace BK464:=Aside0.mk (Qu (g:=gb464) (o:= .cells #[.slice A0_0 l0_0.length c0_0] 26 (0,0)) (by (with_reducible repeat (first|refine Qg ?_ _|refine Qh ?_|refine Qf ?_ _));exact BK464.out) hb);replace HB:=Aside0.mk (Qj (by repeat (first|(with_reducible first|exact HB.out|apply Qc|apply Qa|apply Qd|refine Qe ?_ GE464.out)|exact HB.out)) hb);(try clear hb);(try clear hb2);(try clear hk);(try clear hi))|((with_reducible refine Qk (f:=70) rfl ?_);refine Q6 (some 16) rfl rfl Try.func70 (by kernel_rfl) rfl #[.slice A1 l1.length c1] rfl (by (try simp only [List.map_toArray,List.map_cons,List.map_nil]);first|done|rfl|(simp only [List.length_drop,List.length_take];rfl)) ?_;(with_reducible refine (Qco.calls _ _ l1 t466 _ ?side1 ?side2 A6.out).mono ?_);(case side1=>repeat (first|exact (Kd.C_below HR1.out HB.out)|(with_reducible refine Kd.C_alloc ?_ _)|(with_reducible refine Kd.C_drewN ?_ _)|(with_reducible refine Kd.C_drew ?_)));(case side2=>exact HC1.out);rintro e w11 ⟨v467,rfl,ho0,hb⟩;refine ⟨_,rfl,?_⟩;have HO468:=Aside0.mk (Kd.R_lower (Kd.R_newM (M:=fun k_=>(w.heap.size≤k_)) ho0 (Qq (by repeat (first|(with_reducible first|exact HB.out|apply Qc|apply Qa|apply Qd|refine Qe ?_ GE464.out)|exact HB.out))) (fun k_ h_=>h_)) (Qq (by repeat (first|(with_reducible first|exact HB.out|apply Qc|apply Qa|apply Qd|refine Qe ?_ GE464.out)|exact HB.out))));replace BK464:=Aside0.mk (Qu (g:=gb464) (o:= .cells #[.slice A0_0 l0_0.length c0_0] 26 (0,0)) (by (with_reducible repeat (first|refine Qg ?_ _|refine Qh ?_|refine Qf ?_ _));exact BK464.out) hb);replace HB:=Aside0.mk (Qj (by repeat (first|(with_reducible first|exact HB.out|apply Qc|apply Qa|apply Qd|refine Qe ?_ GE464.out)|exact HB.out)) hb);(try clear hb);(try clear hb2);(try clear hk);(try clear hi);(try clear ho0);obtain ⟨Ao12,co12,eo12⟩:=Kd.R_slice HO468.out;subst eo12)|((with_reducible refine Qbb (N:=17) rfl ?_);refine Kd.N_lit (Kd.slice 3 (Kd.int .i64)) _ 24 ?hg (N':=17) ?hd (xs:=([t466] :List (List Int))) (inner:= [.slice Ao12 t466.length co12]) (ok:=(fun k_=>(w.heap.size≤k_)∧k_≠gb464)) (okp:=(fun k_=>(w.heap.size≤k_)∧k_≠gb464)) ?hr ?hp (fun _ hk=>hk) ((show ∀ k_,w11.heap.size≤k_→(fun k_=>(w.heap.size≤k_)∧k_≠gb464) k_ from fun k_ hk=>⟨(Nat.le_trans (Qq (by repeat (first|(with_reducible first|exact HB.out|apply Qc|apply Qa|apply Qd|refine Qe ?_ GE464.out)|exact HB.out))) hk),Kd.freshB (g:=gb464) (o:= .cells #[.slice A0_0 l0_0.length c0_0] 26 (0,0)) (by (with_reducible repeat (first|refine Qg ?_ _|refine Qh ?_|refine Qf ?_ _));exact BK464.out) k_ hk⟩) _ (Nat.le_refl _)) (Below.refl _ _) (Nat.le_refl _) (by simp) ?_;(case hd=>rfl);(case hg=>rfl);(case hr=>first|(go_simp;done)|(go_simp;rfl));(case hp=>exact (Reps.one (show Kd.FK (Kd.slice 3 (Kd.int .i64)) _ _ t466 [.slice Ao12 t466.length co12] from (Kd.FK_slice_mk (Kd.R_reads' (Kd.R_mono (ok':=(fun k_=>(w.heap.size≤k_)∧k_≠gb464)) (Kd.R_types (HO468.out) BK464.out (by decide)) (fun k_ hk=>⟨hk.1.1,hk.2⟩))).2.1 (Kd.R_F (Kd.R_mono (ok':=(fun k_=>(w.heap.size≤k_)∧k_≠gb464)) (Kd.R_types (HO468.out) BK464.out (by decide)) (fun k_ hk=>⟨hk.1.1,hk.2⟩))))) (Reps.none _ _)));intro v470 w13 ho14 hb hg_ hnew_;clear hg_ hnew_;(first|rw [←Ny469.out] at ho14|(simp only [Int.reduceToNat] at ho14;rw [←Ny469.out] at ho14));have HO471:=Aside0.mk (Kd.N_lower ho14 (Qq (by repeat (first|(with_reducible first|exact HB.out|apply Qc|apply Qa|apply Qd|refine Qe ?_ GE464.out)|exact HB.out))));replace BK464:=Aside0.mk (Qu (g:=gb464) (o:= .cells #[.slice A0_0 l0_0.length c0_0] 26 (0,0)) (by (with_reducible repeat (first|refine Qg ?_ _|refine Qh ?_|refine Qf ?_ _));exact BK464.out) hb);replace HB:=Aside0.mk (Qj (by repeat (first|(with_reducible first|exact HB.out|apply Qc|apply Qa|apply Qd|refine Qe ?_ GE464.out)|exact HB.out)) hb);clear HO468;clear hb ho14;have hcz15_0:w13.cell? ⟨gb464,0,none⟩=some (.slice A0_0 l0_0.length c0_0):=(Qx BK464.out 0).trans rfl;have hfz15_0:=Qp BK464.out 0)|((with_reducible refine Qk (f:=71) rfl ?_);refine Q6 (some 21) rfl rfl Try.func71 (by kernel_rfl) rfl #[.agg #[.slice A0_0 l0_0.length c0_0], .slice A1 l1.length c1, .int .i64 a2] rfl (by (try simp only [List.map_toArray,List.map_cons,List.map_nil]);first|done|rfl|(simp only [List.length_drop,List.length_take];rfl)) ?_;(with_reducible refine (Qb1.calls k _ _ l0_0 _ _ l1 a2 t472 _ ?side1 ?side2 ?side3 ?side4 A7.out).mono ?_);(case side1=>repeat (first|exact (Kd.C_below HR0_0.out HB.out)|(with_reducible refine Kd.C_alloc ?_ _)|(with_reducible refine Kd.C_drewN ?_ _)|(with_reducible refine Kd.C_drew ?_)));(case side2=>exact HC0_0.out);(case side3=>repeat (first|exact (Kd.C_below HR1.out HB.out)|(with_reducible refine Kd.C_alloc ?_ _)|(with_reducible refine Kd.C_drewN ?_ _)|(with_reducible refine Kd.C_drew ?_)));(case side4=>exact HC1.out);rintro e w16 ⟨v473,rfl,ho0,hb⟩;refine ⟨_,rfl,?_⟩;replace HO471:=Aside0.mk (Kd.N_elder' (by (with_reducible repeat (first|apply Kd.N_alloc|apply Kd.N_drewN|apply Kd.N_drew));exact HO471.out) (Kd.R_base ho0) hb);have HO474:=Aside0.mk (Kd.R_lower (Kd.R_newM (M:=fun k_=>(w.heap.size≤k_)) ho0 (Qq (by repeat (first|(with_reducible first|exact HB.out|apply Qc|apply Qa|apply Qd|refine Qe ?_ GE464.out)|exact HB.out))) (fun k_ h_=>h_)) (Qq (by repeat (first|(with_reducible first|exact HB.out|apply Qc|apply Qa|apply Qd|refine Qe ?_ GE464.out)|exact HB.out))));replace BK464:=Aside0.mk (Qu (g:=gb464) (o:= .cells #[.slice A0_0 l0_0.length c0_0] 26 (0,0)) (by (with_reducible repeat (first|refine Qg ?_ _|refine Qh ?_|refine Qf ?_ _));exact BK464.out) hb);replace HB:=Aside0.mk (Qj (by repeat (first|(with_reducible first|exact HB.out|apply Qc|apply Qa|apply Qd|refine Qe ?_ GE464.out)|exact HB.out)) hb);(try clear hb);(try clear hb2);(try clear hk);(try clear hi);(try clear ho0)))
  go_loopg [8,9] k (fun kq v8 v9 w'=> ∃ (x8_1:List (List Int)) (x9_1:List Int),Aside0 (Qbe.l0 kq l1 a2 x8_1 x9_1 l0_0=some (r1,r2))∧Aside0 (kq≤k)∧Aside0 (Kd.N (Kd.slice 3 (Kd.int .i64)) 24 w' w.heap.size (fun k_=>(w.heap.size≤k_)∧some k_≠(v9:Value).ownBlock∧k_≠gb464) v8 x8_1)∧Aside0 (Kd.R (Kd.int .i64) 3 w' w.heap.size (fun k_=>(w.heap.size≤k_)) v9 x9_1)∧Aside0 (w'.heap[gb464]? =some (.cells #[(.slice A0_0 l0_0.length c0_0)] 26 (0,0)))∧Aside0 (Below w.heap.size w w'))
  case atStart=>exact ⟨(y469),(t472),H',⟨Nat.le_refl _⟩,⟨by (with_reducible repeat (first|apply Kd.N_alloc|apply Kd.N_drewN|apply Kd.N_drew));exact Kd.N_mono HO471.out (fun _ hk=>⟨hk.1.1,⟨hk.2,hk.1.2⟩⟩)⟩,⟨by (with_reducible repeat (first|apply Kd.R_alloc|apply Kd.R_drewN|apply Kd.R_drew));exact Kd.R_mono HO474.out (fun _ hk=>hk.1)⟩,⟨by (with_reducible repeat (first|refine Qg ?_ _|refine Qh ?_|refine Qf ?_ _));exact BK464.out⟩,⟨by repeat (first|(with_reducible first|exact HB.out|apply Qc|apply Qa|apply Qd|refine Qe ?_ GE464.out)|exact HB.out)⟩⟩
  case round=>
   clear H'
   try clear c1
   try clear p2
   try clear c5
   try clear c6
   try clear c7
   try clear c9
   try clear hcz15_0
   try clear hcz9_0
   try clear hfz15_0
   try clear hfz9_0
   obtain ⟨x8_1,x9_1,HA,HK1,HO_8,HO_9,BK464,HB⟩:=hrel;cases gk with
   |zero=>exact absurd HA.out (by simp [Qbe.l0])
   |succ k1=>
    have H:=HA.out;clear HA;simp only [Qbe.l0] at H;replace H:=Option.bind_eq_some_iff.mp H;obtain ⟨t475,A170,H⟩:=H;replace H:(if t475=true then (some (x8_1,true)) else (if (x8_1.length:Int)=1000 then (some (([] :List (List Int)),false)) else (if x8_1.length<5864062014805 then ((Qb1.f k1 l0_0 x9_1 a2).bind fun t479=>(Qbe.l0 k1 l1 a2 (x8_1++ [x9_1]) t479 l0_0)) else (none))))=some (r1,r2):=H;have A17:=Aside0.mk A170;clear A170
    by_cases c18:t475=true
    ·
     subst c18;have H1:(some (x8_1,true))=some (r1,r2):=by rw [if_pos rfl] at H;exact H
     clear H;have H:=H1;clear H1;simp only [Option.some.injEq,Prod.mk.injEq] at H;obtain ⟨rfl,rfl⟩:=H;obtain ⟨Ao19,co19,eo19⟩:=Kd.R_slice HO_9.out;subst eo19;go_wp2_with (first|((with_reducible refine Qk (f:=72) rfl ?_);refine Q6 (some 24) rfl rfl Try.func72 (by kernel_rfl) rfl #[.slice Ao19 x9_1.length co19, .slice A1 l1.length c1] rfl (by (try simp only [List.map_toArray,List.map_cons,List.map_nil]);first|done|rfl|(simp only [List.length_drop,List.length_take];rfl)) ?_;(with_reducible refine (Qci.calls k1 _ _ x9_1 _ _ l1 true _ ?side1 ?side2 ?side3 ?side4 A17.out).mono ?_);(case side1=>repeat (first|exact (Kd.R_reads' HO_9.out).2.2|(with_reducible refine Kd.C_alloc ?_ _)|(with_reducible refine Kd.C_drewN ?_ _)|(with_reducible refine Kd.C_drew ?_)));(case side2=>exact (Kd.R_reads' HO_9.out).2.1);(case side3=>repeat (first|exact (Kd.C_below HR1.out HB.out)|(with_reducible refine Kd.C_alloc ?_ _)|(with_reducible refine Kd.C_drewN ?_ _)|(with_reducible refine Kd.C_drew ?_)));(case side4=>exact HC1.out);rintro e w' ⟨rfl,⟨nd,rfl⟩⟩;refine ⟨_,rfl,?_⟩))
     go_ret2
     exact ⟨_,by first|rfl|(simp [Qm,Ql] <;>rfl)|(simp [*,Qm,Ql] <;>rfl),by (with_reducible repeat (first|apply Kd.N_alloc|apply Kd.N_drewN|apply Kd.N_drew));exact Kd.N_mono HO_8.out (fun _ hk=>hk.1),by repeat (first|(with_reducible first|exact HB.out|apply Qc|apply Qa|apply Qd|refine Qe ?_ GE464.out)|exact HB.out)⟩
    ·
     replace c18:=Bool.eq_false_iff.mpr c18;subst c18;have H1:(if (x8_1.length:Int)=1000 then (some (([] :List (List Int)),false)) else (if x8_1.length<5864062014805 then ((Qb1.f k1 l0_0 x9_1 a2).bind fun t479=>(Qbe.l0 k1 l1 a2 (x8_1++ [x9_1]) t479 l0_0)) else (none)))=some (r1,r2):=by rw [if_neg (show ¬ (false=true) by decide)] at H;exact H
     clear H;have H:=H1;clear H1
     by_cases c20:(x8_1.length:Int)=1000
     ·
      rw [if_pos c20] at H;have c20b0:((x8_1.length:Int)==1000)=true:=beq_iff_eq.mpr c20;have c20b1:((x8_1.length:Int) !=1000)=false:=bne_eq_false_iff_eq.mpr c20;clear c20;simp only [Option.some.injEq,Prod.mk.injEq] at H;obtain ⟨rfl,rfl⟩:=H;obtain ⟨Ao21,co21,eo21⟩:=Kd.R_slice HO_9.out;subst eo21;go_wp2_with (first|((with_reducible refine Qk (f:=72) rfl ?_);refine Q6 (some 24) rfl rfl Try.func72 (by kernel_rfl) rfl #[.slice Ao21 x9_1.length co21, .slice A1 l1.length c1] rfl (by (try simp only [List.map_toArray,List.map_cons,List.map_nil]);first|done|rfl|(simp only [List.length_drop,List.length_take];rfl)) ?_;(with_reducible refine (Qci.calls k1 _ _ x9_1 _ _ l1 false _ ?side1 ?side2 ?side3 ?side4 A17.out).mono ?_);(case side1=>repeat (first|exact (Kd.R_reads' HO_9.out).2.2|(with_reducible refine Kd.C_alloc ?_ _)|(with_reducible refine Kd.C_drewN ?_ _)|(with_reducible refine Kd.C_drew ?_)));(case side2=>exact (Kd.R_reads' HO_9.out).2.1);(case side3=>repeat (first|exact (Kd.C_below HR1.out HB.out)|(with_reducible refine Kd.C_alloc ?_ _)|(with_reducible refine Kd.C_drewN ?_ _)|(with_reducible refine Kd.C_drew ?_)));(case side4=>exact HC1.out);rintro e w' ⟨rfl,⟨nd,rfl⟩⟩;refine ⟨_,rfl,?_⟩;obtain ⟨Ao22,co22,eo22⟩:=Kd.N_slice HO_8.out;subst eo22))
      go_ret2
      exact ⟨_,by first|rfl|(simp [Qm,Ql] <;>rfl)|(simp [*,Qm,Ql] <;>rfl),by first|exact Kd.S_nil _ _ _ _ _|exact Kd.N_nil _ _ _ _ _|exact Kd.V_nil _ _ _ _ _|exact Kd.Q_nil _ _ _ _ _|exact Kd.R_nil _ _ _ _ _,by repeat (first|(with_reducible first|exact HB.out|apply Qc|apply Qa|apply Qd|refine Qe ?_ GE464.out)|exact HB.out)⟩
     ·
      rw [if_neg c20] at H;have c20b0:((x8_1.length:Int)==1000)=false:=beq_eq_false_iff_ne.mpr c20;have c20b1:((x8_1.length:Int) !=1000)=true:=bne_iff_ne.mpr c20
      by_cases c23:x8_1.length<5864062014805
      ·
       rw [if_pos c23] at H;have LMc23:=Aside0.mk c23;clear c23;obtain ⟨y476,hy476⟩: ∃ y_:List (List Int),y_=(x8_1++ [x9_1]):=⟨_,rfl⟩
       replace H:((Qb1.f k1 l0_0 x9_1 a2).bind fun t479=>(Qbe.l0 k1 l1 a2 y476 t479 l0_0))=some (r1,r2):=by first|(rw [hy476];with_reducible exact H)|(have H2_:=(Option.bind_some _ _).symm.trans H;rw [hy476];with_reducible exact H2_)|(have H2_:=(Option.bind_some _ _).symm.trans H;with_reducible exact H2_)|with_reducible exact H|(rw [hy476];exact H)|exact H
       have Ny476:=Aside0.mk hy476;clear hy476;replace H:=Option.bind_eq_some_iff.mp H;obtain ⟨t479,A240,H⟩:=H;replace H:(Qbe.l0 k1 l1 a2 y476 t479 l0_0)=some (r1,r2):=H;have A24:=Aside0.mk A240;clear A240;have H':=Aside0.mk H;clear H;obtain ⟨Ao25,co25,eo25⟩:=Kd.R_slice HO_9.out;subst eo25;go_wp2_with (first|((with_reducible refine Qk (f:=72) rfl ?_);refine Q6 (some 24) rfl rfl Try.func72 (by kernel_rfl) rfl #[.slice Ao25 x9_1.length co25, .slice A1 l1.length c1] rfl (by (try simp only [List.map_toArray,List.map_cons,List.map_nil]);first|done|rfl|(simp only [List.length_drop,List.length_take];rfl)) ?_;(with_reducible refine (Qci.calls k1 _ _ x9_1 _ _ l1 false _ ?side1 ?side2 ?side3 ?side4 A17.out).mono ?_);(case side1=>repeat (first|exact (Kd.R_reads' HO_9.out).2.2|(with_reducible refine Kd.C_alloc ?_ _)|(with_reducible refine Kd.C_drewN ?_ _)|(with_reducible refine Kd.C_drew ?_)));(case side2=>exact (Kd.R_reads' HO_9.out).2.1);(case side3=>repeat (first|exact (Kd.C_below HR1.out HB.out)|(with_reducible refine Kd.C_alloc ?_ _)|(with_reducible refine Kd.C_drewN ?_ _)|(with_reducible refine Kd.C_drew ?_)));(case side4=>exact HC1.out);rintro e w' ⟨rfl,⟨nd,rfl⟩⟩;refine ⟨_,rfl,?_⟩;obtain ⟨Ao26,co26,eo26⟩:=Kd.N_slice HO_8.out;subst eo26)|((with_reducible refine Qcv (b:= .append) (xs:= #[.tmp 33, .tmp 35]) rfl ?_);at_builtin;refine Kd.N_append (Kd.slice 3 (Kd.int .i64)) (w0:=w) w.heap.size rfl (.tmp 33) (.tmp 35) 29 24 (.slice none 0 0) 24 rfl Try.underlying29 Qd8 rfl (by decide) (by omega) (.slice Ao26 x8_1.length co26) x8_1 x9_1 [.slice Ao25 x9_1.length co25] (fun k_=>(w.heap.size≤k_)∧k_≠gb464) (fun k_=>((fun k_=>(w.heap.size≤k_)∧k_≠gb464)) k_∧some k_≠(.slice Ao26 x8_1.length co26:Value).ownBlock) rfl rfl ?aP (fun _ hk=>hk) ?aF ?aO ?aB ?aS ?aL ?_;(case aP=>exact (Kd.FK_slice_mk (Kd.R_reads' (Kd.R_mono (ok':=(fun k_=>((fun k_=>(w.heap.size≤k_)∧k_≠gb464)) k_∧some k_≠(.slice Ao26 x8_1.length co26:Value).ownBlock)) (Kd.R_types (Kd.R_apart' (HO_9.out) (Kd.N_typed HO_8.out) (by decide)) BK464.out (by decide)) (fun k_ hk=>⟨⟨hk.1.1,hk.2⟩,hk.1.2⟩))).2.1 (Kd.R_F (Kd.R_mono (ok':=(fun k_=>((fun k_=>(w.heap.size≤k_)∧k_≠gb464)) k_∧some k_≠(.slice Ao26 x8_1.length co26:Value).ownBlock)) (Kd.R_types (Kd.R_apart' (HO_9.out) (Kd.N_typed HO_8.out) (by decide)) BK464.out (by decide)) (fun k_ hk=>⟨⟨hk.1.1,hk.2⟩,hk.1.2⟩)))));(case aB=>exact (by repeat (first|(with_reducible first|exact HB.out|apply Qc|apply Qa|apply Qd|refine Qe ?_ GE464.out)|exact HB.out)));(case aF=>exact (fun k_ hk=>⟨(Nat.le_trans (Qq (by repeat (first|(with_reducible first|exact HB.out|apply Qc|apply Qa|apply Qd|refine Qe ?_ GE464.out)|exact HB.out))) hk),Kd.freshB (g:=gb464) (o:= .cells #[.slice A0_0 l0_0.length c0_0] 26 (0,0)) (by (with_reducible repeat (first|refine Qg ?_ _|refine Qh ?_|refine Qf ?_ _));exact BK464.out) k_ hk⟩));(case aO=>exact (by (with_reducible repeat (first|apply Kd.N_alloc|apply Kd.N_drewN|apply Kd.N_drew));exact Kd.N_mono HO_8.out (fun _ hk=>⟨hk.1,hk.2.2⟩)));(case aS=>exact (Qq (by repeat (first|(with_reducible first|exact HB.out|apply Qc|apply Qa|apply Qd|refine Qe ?_ GE464.out)|exact HB.out))));(case aL=>have:=LMc23.out;omega);intro v477 w27 ho hb hg hat;rw [←Ny476.out] at ho;have hq_:=(Kd.R_apart' (HO_9.out) (Kd.N_typed HO_8.out) (by decide));have HO_9k:=Aside0.mk (Kd.R_grown (Kd.R_drewN hq_ _) hg (fun k_ hk=>hk.2));clear hq_;replace BK464:=Aside0.mk (Qcx (g:=gb464) (o:= .cells #[.slice A0_0 l0_0.length c0_0] 26 (0,0)) (by (with_reducible repeat (first|refine Qg ?_ _|refine Qh ?_|refine Qf ?_ _));exact BK464.out) hg (Kd.N_ne HO_8.out BK464.out (by decide)));replace HB:=Aside0.mk (hb);have HO478:=Aside0.mk (ho);clear HO_8 HO_9;clear ho hb hg hat;have hcz28_0:w27.cell? ⟨gb464,0,none⟩=some (.slice A0_0 l0_0.length c0_0):=(Qx BK464.out 0).trans rfl;have hfz28_0:=Qp BK464.out 0)|((with_reducible refine Qk (f:=71) rfl ?_);refine Q6 (some 29) rfl rfl Try.func71 (by kernel_rfl) rfl #[.agg #[.slice A0_0 l0_0.length c0_0], .slice Ao25 x9_1.length co25, .int .i64 a2] rfl (by (try simp only [List.map_toArray,List.map_cons,List.map_nil]);first|done|rfl|(simp only [List.length_drop,List.length_take];rfl)) ?_;(with_reducible refine (Qb1.calls k1 _ _ l0_0 _ _ x9_1 a2 t479 _ ?side1 ?side2 ?side3 ?side4 A24.out).mono ?_);(case side1=>repeat (first|exact (Kd.C_below HR0_0.out HB.out)|(with_reducible refine Kd.C_alloc ?_ _)|(with_reducible refine Kd.C_drewN ?_ _)|(with_reducible refine Kd.C_drew ?_)));(case side2=>exact HC0_0.out);(case side3=>repeat (first|exact (Kd.R_reads' HO_9k.out).2.2|(with_reducible refine Kd.C_alloc ?_ _)|(with_reducible refine Kd.C_drewN ?_ _)|(with_reducible refine Kd.C_drew ?_)));(case side4=>exact (Kd.R_reads' HO_9k.out).2.1);rintro e w29 ⟨v480,rfl,ho0,hb⟩;refine ⟨_,rfl,?_⟩;replace HO478:=Aside0.mk (Kd.N_elder' (by (with_reducible repeat (first|apply Kd.N_alloc|apply Kd.N_drewN|apply Kd.N_drew));exact HO478.out) (Kd.R_base ho0) hb);have HO481:=Aside0.mk (Kd.R_lower (Kd.R_newM (M:=fun k_=>(w.heap.size≤k_)) ho0 (Qq (by repeat (first|(with_reducible first|exact HB.out|apply Qc|apply Qa|apply Qd|refine Qe ?_ GE464.out)|exact HB.out))) (fun k_ h_=>h_)) (Qq (by repeat (first|(with_reducible first|exact HB.out|apply Qc|apply Qa|apply Qd|refine Qe ?_ GE464.out)|exact HB.out))));replace BK464:=Aside0.mk (Qu (g:=gb464) (o:= .cells #[.slice A0_0 l0_0.length c0_0] 26 (0,0)) (by (with_reducible repeat (first|refine Qg ?_ _|refine Qh ?_|refine Qf ?_ _));exact BK464.out) hb);replace HB:=Aside0.mk (Qj (by repeat (first|(with_reducible first|exact HB.out|apply Qc|apply Qa|apply Qd|refine Qe ?_ GE464.out)|exact HB.out)) hb);(try clear hb);(try clear hb2);(try clear hk);(try clear hi);(try clear ho0)))
       go_roundg k1
       case measure=>have:=HK1.out;omega
       case rel=>exact ⟨(y476),(t479),H',⟨by have:=HK1.out;omega⟩,⟨by (with_reducible repeat (first|apply Kd.N_alloc|apply Kd.N_drewN|apply Kd.N_drew));exact Kd.N_mono HO478.out (fun _ hk=>⟨hk.1.1,⟨hk.2,hk.1.2⟩⟩)⟩,⟨by (with_reducible repeat (first|apply Kd.R_alloc|apply Kd.R_drewN|apply Kd.R_drew));exact Kd.R_mono HO481.out (fun _ hk=>hk.1)⟩,⟨by (with_reducible repeat (first|refine Qg ?_ _|refine Qh ?_|refine Qf ?_ _));exact BK464.out⟩,⟨by repeat (first|(with_reducible first|exact HB.out|apply Qc|apply Qa|apply Qd|refine Qe ?_ GE464.out)|exact HB.out)⟩⟩
      ·
       rw [if_neg c23] at H;exact absurd H (by simp)
 ·
  replace c5:=Bool.eq_false_iff.mpr c5;subst c5;have H1:(some (([] :List (List Int)),false))=some (r1,r2):=by rw [if_neg (show ¬ (false=true) by decide)] at H;exact H
  clear H;have H:=H1;clear H1;simp only [Option.some.injEq,Prod.mk.injEq] at H;obtain ⟨rfl,rfl⟩:=H;go_enter Try.func9,Try.ntmps9;go_wp2_with (first|((with_reducible refine Qbb (N:=3) rfl ?_);refine Qbg ?hg (N:=3) ?hd (cs:= #[.slice A0_0 l0_0.length c0_0]) (t:=26) ?hr ?_;(case hd=>rfl);(case hg=>rfl);(case hr=>first|(go_simp;done)|(go_simp;rfl));intro gb464 hg w30 hbox hb;have BK464:=Aside0.mk (hbox);have GW464:=Aside0.mk ((by rw [hg];exact (Qq (by repeat (first|(with_reducible first|exact HB.out|apply Qc|apply Qa|apply Qd)|exact HB.out))):w.heap.size≤gb464));have GE464:=GW464;replace HB:=Aside0.mk (Qj (by repeat (first|(with_reducible first|exact HB.out|apply Qc|apply Qa|apply Qd)|exact HB.out)) hb);clear hb hbox hg;have hcz31_0:w30.cell? ⟨gb464,0,none⟩=some (.slice A0_0 l0_0.length c0_0):=(Qx BK464.out 0).trans rfl;have hfz31_0:=Qp BK464.out 0)|((with_reducible refine Qk (f:=69) rfl ?_);refine Q6 (some 13) rfl rfl Try.func69 (by kernel_rfl) rfl #[.agg #[.slice A0_0 l0_0.length c0_0], .slice A1 l1.length c1, .int .i64 a2] rfl (by (try simp only [List.map_toArray,List.map_cons,List.map_nil]);first|done|rfl|(simp only [List.length_drop,List.length_take];rfl)) ?_;(with_reducible refine (Qcm.calls k _ _ l0_0 _ _ l1 a2 false _ ?side1 ?side2 ?side3 ?side4 A4.out).mono ?_);(case side1=>repeat (first|exact (Kd.C_below HR0_0.out HB.out)|(with_reducible refine Kd.C_alloc ?_ _)|(with_reducible refine Kd.C_drewN ?_ _)|(with_reducible refine Kd.C_drew ?_)));(case side2=>exact HC0_0.out);(case side3=>repeat (first|exact (Kd.C_below HR1.out HB.out)|(with_reducible refine Kd.C_alloc ?_ _)|(with_reducible refine Kd.C_drewN ?_ _)|(with_reducible refine Kd.C_drew ?_)));(case side4=>exact HC1.out);rintro e w32 ⟨rfl,hb⟩;refine ⟨_,rfl,?_⟩;replace BK464:=Aside0.mk (Qu (g:=gb464) (o:= .cells #[.slice A0_0 l0_0.length c0_0] 26 (0,0)) (by (with_reducible repeat (first|refine Qg ?_ _|refine Qh ?_|refine Qf ?_ _));exact BK464.out) hb);replace HB:=Aside0.mk (Qj (by repeat (first|(with_reducible first|exact HB.out|apply Qc|apply Qa|apply Qd|refine Qe ?_ GE464.out)|exact HB.out)) hb);(try clear hb);(try clear hb2);(try clear hk);(try clear hi)))
  go_ret2
  exact ⟨_,by first|rfl|(simp [Qm,Ql] <;>rfl)|(simp [*,Qm,Ql] <;>rfl),by first|exact Kd.S_nil _ _ _ _ _|exact Kd.N_nil _ _ _ _ _|exact Kd.V_nil _ _ _ _ _|exact Kd.Q_nil _ _ _ _ _|exact Kd.R_nil _ _ _ _ _,by repeat (first|(with_reducible first|exact HB.out|apply Qc|apply Qa|apply Qd|refine Qe ?_ GE464.out)|exact HB.out)⟩
end Go.Proofs.Ytkgngggppcmpfaa.L
end
